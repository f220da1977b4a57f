/- Plain laws about these plain functions alone. Conditions: none. -/
import Derived.Test.YteckohdbfkhmdacGreatDoorMCTopMirror
set_option linter.unusedVariables false
set_option linter.unusedSimpArgs false
namespace Go.WM
open Go.Pl
open Go Go.Sw Go.Mo
abbrev fF:=Int×List Int×List aQ
def wO(x:Int):Bool:=decide (x<0) || decide (x>2147483647)
def dT(f:fF):Int:=if f.1<0\/f.1>15 then 1 else if f.2.1.length>12\/f.2.2.length>32 then 2 else if f.2.1.any wO then 1 else 0
theorem Ux{D:Type}(r:Nat->D)(l:List Int):∀i,sS (fun (i:Nat) (x:Int) (_:Unit)=>(if wO x then Step.done (Ex.ret (r i)) else .next ():Step Unit (Ex Unit D))) (fun _=> .WB ()) i () l=match l.findIdx? wO with | some j=> .ret (r (i+j)) | none=> .WB ():=by
 induction l with
 |nil=>intro i;simp[sS]
 |cons x l u=>
  intro i;simp only[sS,List.findIdx?_cons];by_cases h:wO x=true
  ·simp[h]
  ·simp only[h,ZW,u,O2];cases l.findIdx? wO with
   |none=>rfl
   |some j=>simp[aDs,aDf 1]
theorem Uy(l:List Int):l.any wO=(l.findIdx? wO).isSome:=by
 rw[List.findIdx?_isSome]
theorem DH(x:Int):pQ x=some (wO x):=by
 unfold pQ wO;by_cases h:x<0
 ·have:cm .lss x 0=true:=by simp[cm,h]
  simp[this,h]
 ·have:cm .lss x 0=false:=by simp[cm];omega
  simp[this,h,cm]
theorem Uz(l:List Int)(h:l.length<=1000000):cX l=some (l.any wO):=by
 unfold cX dY;rw[show (0:Int)=((0:Nat):Int) from rfl,Bk (l:=l) (fun i (_:Unit)=>(i:Int)) () (fun i x _=>if wO x then .done (.ret (i:Int)) else .next ()) (fun _=> .WB ()) (by unfold fJ;omega)]
 ·rw[Ux (fun i=>(i:Int)),Uy];cases l.findIdx? wO<;>simp[out,cm]
 ·rintro u x z acc rfl;simp only[pK,XG,mV,cM,DH,GY (n:=u.length) (m:=1000000) (by simp at h;omega) (by omega)];cases wO x<;>simp[Ir]
 ·intro _;simp[dR]
theorem Fk(f:fF):qB f=some (if dT f=0 then none else some (dT f)):=by
 obtain⟨s,h,u⟩:=f;unfold qB dT;by_cases z:s<0
 ·have:cm .lss s 0=true:=by simp[cm,z]
  simp[this,z]
 have A:cm .lss s 0=false:=by simp[cm];omega
 by_cases C:s>15
 ·have:cm .gtr s 15=true:=by simp[cm];omega
  simp[A,this,C]
 have D:cm .gtr s 15=false:=by simp[cm];omega
 have E:¬(s<0\/s>15):=by omega
 simp only[A,D,pF,cM,E,ZW];by_cases F:h.length>12
 ·have:cm .gtr (h.length:Int) 12=true:=by simp[cm];omega
  simp[this,F]
 have B:cm .gtr (h.length:Int) 12=false:=by simp[cm];omega
 by_cases G:u.length>32
 ·have:cm .gtr (u.length:Int) 32=true:=by simp[cm];omega
  simp[B,this,G]
 have H:cm .gtr (u.length:Int) 32=false:=by simp[cm];omega
 have I:¬(h.length>12\/u.length>32):=by omega
 simp only[B,H,pF,cM,I,ZW,Uz h (by omega)];cases h.any wO<;>simp
def vf:Nat->Nat->List Int
 | 0,n=>[(n:Int)]
 |k+1,n=>if n<128 then [(n:Int)] else ((128+n % 128:Nat):Int)::vf k (n / 128)
theorem Nh:∀k n,n<128 ^ (k+1)->Bytes (vf k n)/\(vf k n).length<=k+1
 | 0,n,h=>by
  simp at h;exact⟨fun x u=>by simp[vf] at u;omega,by simp[vf]⟩
 |k+1,n,h=>by
  unfold vf;split
  ·exact⟨fun x u=>by simp at u;omega,by simp⟩
  ·have z:n / 128<128 ^ (k+1):=by rw[aEf] at h;omega
   obtain⟨A,B⟩:=Nh k (n / 128) z;refine⟨fun x u=>?_,by simp;omega⟩;rcases m5.1 u with rfl | u
   ·have:=lv n (by decide:0<128);omega
   ·exact A x u
theorem Qn{γ:Type}{step:Int×List Int->Option (Step (Int×List Int) (Ex (Int×List Int) γ))}
  (h1:∀(n:Nat) acc,128<=n->n<34359738368->acc.length<=1000000->step ((n:Int),acc)=some (.next (((n / 128:Nat):Int),acc++[((128+n % 128:Nat):Int)])))
  (h2:∀(n:Nat) acc,n<128->step ((n:Int),acc)=some (.done (.WB ((n:Int),acc)))):
  ∀(k n:Nat) (acc:List Int) (f:Nat),n<128 ^ (k+1)->n<34359738368->acc.length+k<=1000000->k<f->∃(m:Nat) (XI:List Int),loop step f ((n:Int),acc)=some (.WB ((m:Int),XI))/\m<128/\XI++[(m:Int)]=acc++vf k n
 | 0,n,acc,f,h,_,_,C=>by
  obtain⟨f,rfl⟩:∃f',f=f'+1:=⟨f - 1,by omega⟩;simp at h;exact⟨n,acc,by simp[loop,h2 n acc h],h,rfl⟩
 |k+1,n,acc,f,h,D,E,C=>by
  obtain⟨f,rfl⟩:∃f',f=f'+1:=⟨f - 1,by omega⟩;by_cases u:n<128
  ·exact⟨n,acc,by simp[loop,h2 n acc u],u,by simp[vf,u]⟩
  ·obtain⟨m,XI,z,A,B⟩:=Qn h1 h2 k (n / 128) (acc++[((128+n % 128:Nat):Int)]) f (by rw[aEf] at h;omega) (by omega) (by simp;omega) (by omega);refine⟨m,XI,?_,A,?_⟩
   ·simp only[loop,h1 n acc (by omega) D (by omega)];exact z
   ·rw[B];simp[vf,u]
theorem TR:∀a:Fin 256,ar .or .u8 ((a.1:Nat):Int) 128=((128+a.1 % 128:Nat):Int):=by decide+kernel
theorem Dh(n:Nat):IntKind.wrap .u8 (n:Int)=((n % 256:Nat):Int):=by
 simp[IntKind.wrap,IntKind.signed,IntKind.bits]
theorem TS(n:Nat):sh .shr .i64 (n:Int) 7=((n / 128:Nat):Int):=by
 show Int.fdiv _ _=_;have:(2:Int) ^ min (7:Int).toNat (IntKind.bits .i64)=128:=by decide
 rw[this,vg _ (by omega)];omega
theorem HZ:∀s:Fin 16,∀n:Fin 13,ar .or .u8 (sh .shl .u8 (IntKind.wrap .u8 (s.1:Int)) 4) (IntKind.wrap .u8 (n.1:Int))=IntKind.wrap .u8 (ar .add .i64 (ar .mul .i64 16 (s.1:Int)) (n.1:Int)):=by decide+kernel
def Hs(f:fF):List Int:=[IntKind.wrap .u8 (ar .add .i64 (ar .mul .i64 16 f.1) (f.2.1.length:Int)),IntKind.wrap .u8 (f.2.2.length:Int)]
def vs(ns:List Int):List Int:=ns.flatMap fun n=>vf 4 n.toNat
def body(f:fF):List Int:=Hs f++vs f.2.1++f.2.2.flatten
def u1(v:Nat):List Int:=[((v / 16777216:Nat):Int),((v / 65536 % 256:Nat):Int),((v / 256 % 256:Nat):Int),((v % 256:Nat):Int)]
def bQ(f:fF):List Int:=body f++u1 (4294967295 - Aa (nat (body f)))
theorem B5{α A B β γ:Type}{step:α->Option (Step α (Ex β γ))}{l:List A}{k:β->Option γ}(st:Nat->B->α)(I:Nat->B->Prop)(YQ:B)(g:Nat->A->B->B)(fin:B->β)(hf:l.length<fJ)(h0:I 0 YQ)
  (hs:∀pre x rest acc,l=pre++x::rest->I pre.length acc->step (st pre.length acc)=some (.next (st (pre.length+1) (g pre.length x acc)))/\I (pre.length+1) (g pre.length x acc))
  (he:∀acc,I l.length acc->step (st l.length acc)=some (.done (.WB (fin acc)))):
  lp step (st 0 YQ) k=k (fin ((l.zipIdx).foldl (fun acc x=>g x.2 x.1 acc) YQ)):=by
 have C:∀(rest pre:List A) (acc:B) (f:Nat),l=pre++rest->I pre.length acc->rest.length<f->loop step f (st pre.length acc)=some (.WB (fin ((rest.zipIdx pre.length).foldl (fun acc x=>g x.2 x.1 acc) acc))):=by
  intro rest
  induction rest with
  |nil=>
   intro pre acc f u z hf;obtain⟨f,rfl⟩:∃f',f=f'+1:=⟨f - 1,by simp at hf;omega⟩;have:=he acc (by rw[u,X1];exact z);rw[u,X1] at this;simp[loop,this]
  |cons x rest F=>
   intro pre acc f u z hf;obtain⟨f,rfl⟩:∃f',f=f'+1:=⟨f - 1,by simp at hf;omega⟩;obtain⟨D,E⟩:=hs pre x rest acc u z;simp only[loop,D];have:=F (pre++[x]) (g pre.length x acc) f (by rw[u];simp) (by simpa using E) (by simp at hf;omega);simpa using this
 have h:=C l [] YQ fJ rfl h0 hf;unfold lp;simp only[T6] at h;rw[h]
theorem ZE{A:Type}(w:A->List Int):∀(l:List A) (i:Nat) (acc:List Int),(l.zipIdx i).foldl (fun acc x=>acc++w x.1) acc=acc++l.flatMap w
 | [],_,acc=>by simp
 |x::l,i,acc=>by simp[ZE w l]
end Go.WM
namespace Go.WM
open Go.Pl
open Go Go.Sw Go.Mo
theorem VD{α:Type}(xs ys:List α)(h:xs.length+ys.length<=4294967296):Sw.app xs ys=some (xs++ys):=by unfold Sw.app;rw[WJ h]
end Go.WM
namespace Go.WM
open Go.Pl
open Go Go.Sw Go.Mo
theorem ML{γ:Type}{step:Int×List Int->Option (Step (Int×List Int) (Ex (Int×List Int) γ))}{k:Int×List Int->Option γ}
  (h1:∀(n:Nat) acc,128<=n->n<34359738368->acc.length<=1000000->step ((n:Int),acc)=some (.next (((n / 128:Nat):Int),acc++[((128+n % 128:Nat):Int)])))
  (h2:∀(n:Nat) acc,n<128->step ((n:Int),acc)=some (.done (.WB ((n:Int),acc)))) (n:Nat) (acc:List Int) (hn:n<34359738368) (ha:acc.length<=900000):
  ∃(m:Nat) (XI:List Int),lp step ((n:Int),acc) k=k ((m:Int),XI)/\m<128/\XI++[(m:Int)]=acc++vf 4 n:=by
 obtain⟨m,XI,h,u,z⟩:=Qn h1 h2 4 n acc fJ (by omega) hn (by omega) (by unfold fJ;omega);exact⟨m,XI,by unfold lp;rw[h],u,z⟩
structure Good (f:fF):Prop where
 s0:0<=f.1
 s1:f.1<=15
 ns:f.2.1.length<=12
 bs:f.2.2.length<=32
 num:∀n∈f.2.1,0<=n/\n<=2147483647
 YN:∀b∈f.2.2,b.length=8/\Bytes b
theorem qP{f:fF}(h:dT f=0)(hb:∀b∈f.2.2,b.length=8/\Bytes b):Good f:=by
 unfold dT at h;split at h
 ·cases h
 ·split at h
  ·cases h
  ·split at h
   ·cases h
   ·rename_i B C u;refine⟨by omega,by omega,by omega,by omega,fun n z=>?_,hb⟩;have:¬wO n=true:=fun A=>u (aDc.2 ⟨n,z,A⟩);simp[wO] at this;omega
theorem Va{ns:List Int}(h:∀n∈ns,0<=n/\n<=2147483647):Bytes (vs ns)/\(vs ns).length<=5*ns.length:=by
 induction ns with
 |nil=>exact⟨fun x u=>by simp[vs] at u,by simp[vs]⟩
 |cons n ns C=>
  obtain⟨z,A⟩:=C (fun x u=>h x (by simp[u]));have D:=h n (by simp);obtain⟨B,E⟩:=Nh 4 n.toNat (by omega);refine⟨fun x u=>?_,?_⟩
  ·simp only[vs,aEn,K9] at u;rcases u with u | u
   ·exact B x u
   ·exact z x u
  ·simp only[vs,aEn,sM,D2];unfold vs at A;omega
theorem p8{bs:List aQ}(h:∀b∈bs,b.length=8/\Bytes b):Bytes bs.flatten/\bs.flatten.length=8*bs.length:=by
 induction bs with
 |nil=>exact⟨fun x u=>by simp at u,rfl⟩
 |cons b bs D=>
  obtain⟨z,A⟩:=D (fun x u=>h x (by simp[u]));obtain⟨B,C⟩:=h b (by simp);refine⟨fun x u=>?_,by simp only[aC0,sM,A,B,D2];omega⟩;simp only[aC0,K9] at u;rcases u with u | u
  ·exact C x u
  ·exact z x u
theorem rE{f:fF}(h:Good f):Bytes (body f)/\(body f).length<=1000:=by
 obtain⟨z,B⟩:=Va h.num;obtain⟨A,C⟩:=p8 h.YN;have:=h.ns;have:=h.bs;refine⟨fun x u=>?_,by simp only[body,Hs,sM,D2,T6];omega⟩;simp only[body,K9] at u;rcases u with (u | u) | u
 ·simp only[Hs,m5,aCs,aEt] at u;rcases u with rfl | rfl
  ·have:=yN .u8 (ar .add .i64 (ar .mul .i64 16 f.1) (f.2.1.length:Int));unfold Cw at this;simpa[IntKind.min,IntKind.max,IntKind.signed,IntKind.bits] using this
  ·have:=yN .u8 (f.2.2.length:Int);unfold Cw at this;simpa[IntKind.min,IntKind.max,IntKind.signed,IntKind.bits] using this
 ·exact z x u
 ·exact A x u
theorem Et{f:fF}(h:Good f)(he:dT f=0):mS f=some (bQ f,none):=by
 obtain⟨s,u,A⟩:=f;have M:=h.s0;have N:=h.s1;have D:=h.ns;have E:=h.bs;have F:=h.num;have G:=h.YN;simp only at D E F G M N;obtain⟨ae,af⟩:=Va F;obtain⟨ah,ai⟩:=p8 G;obtain⟨K,P8⟩:=rE h;unfold mS;rw[Fk,WJ he];simp only[cM,ZV,pF];have O:ar .or .u8 (sh .shl .u8 (IntKind.wrap .u8 s) 4) (IntKind.wrap .u8 (u.length:Int))=IntKind.wrap .u8 (ar .add .i64 (ar .mul .i64 16 s) (u.length:Int)):=by
  have:=HZ ⟨s.toNat,by omega⟩ ⟨u.length,by omega⟩;have e:((s.toNat:Nat):Int)=s:=by omega
  simpa[e] using this
 rw[O,show ((0:Int),[IntKind.wrap .u8 (ar .add .i64 (ar .mul .i64 16 s) (u.length:Int)),IntKind.wrap .u8 (A.length:Int)])=(((0:Nat):Int),Hs (s,u,A)) from rfl];rw[B5 (l:=u) (fun i (acc:List Int)=>((i:Int),acc)) (fun i acc=>acc.length<=2+5*i) (Hs (s,u,A)) (fun _ n acc=>acc++vf 4 n.toNat) (fun acc=>acc) (by unfold fJ;omega) (by simp[Hs])]
 ·rw[ZE (fun n:Int=>vf 4 n.toNat)];rw[show ((0:Int),Hs (s,u,A)++u.flatMap (fun n=>vf 4 n.toNat))=(((0:Nat):Int),Hs (s,u,A)++vs u) from rfl];rw[B5 (l:=A) (fun i (acc:List Int)=>((i:Int),acc)) (fun i acc=>acc.length<=100+8*i) (Hs (s,u,A)++vs u) (fun _ z acc=>acc++z) (fun acc=>acc) (by unfold fJ;omega) (by simp[Hs];omega)]
  ·rw[ZE (fun z:aQ=>z)];have P:Hs (s,u,A)++vs u++A.flatMap (fun z=>z)=body (s,u,A):=by simp[body,List.flatMap_id']
   rw[P,HY _ K (by omega)];simp only[cM];have WZ:Aa (nat (body (s,u,A)))<4294967296:=Hq _ _ (by decide) (Hr K);generalize hv:4294967295 - Aa (nat (body (s,u,A)))=v;have ZG:v<4294967296:=by omega
   have Q:sh .shr .u32 (v:Int) 24=((v / 16777216:Nat):Int):=by
    show Int.fdiv _ _=_;have:(2:Int) ^ min (24:Int).toNat (IntKind.bits .u32)=16777216:=by decide
    rw[this,vg _ (by omega)];omega
   have R:sh .shr .u32 (v:Int) 16=((v / 65536:Nat):Int):=by
    show Int.fdiv _ _=_;have:(2:Int) ^ min (16:Int).toNat (IntKind.bits .u32)=65536:=by decide
    rw[this,vg _ (by omega)];omega
   have S:sh .shr .u32 (v:Int) 8=((v / 256:Nat):Int):=by
    show Int.fdiv _ _=_;have:(2:Int) ^ min (8:Int).toNat (IntKind.bits .u32)=256:=by decide
    rw[this,vg _ (by omega)];omega
   rw[Q,R,S,Dh,Dh,Dh,Dh];rw[VD _ _ (by simp;omega)];simp only[cM,bQ,hv,u1];have T:v / 16777216 % 256=v / 16777216:=N2 (by omega);simp[T]
  ·rintro C z ab acc rfl hI;obtain⟨hz,_⟩:=G z (by simp);simp only[pK,XG,mV,cM];have bz:C.length<=32:=by simp at E;omega
   rw[VD _ _ (by omega),GY (n:=C.length) (m:=1000000) (by simp at E;omega) (by omega)];exact⟨rfl,by simp;omega⟩
  ·intro acc _;simp[dR]
 ·rintro C n ab acc rfl hI;have hn:=F n (by simp);obtain⟨m,rfl⟩:∃m:Nat,n=(m:Int):=⟨n.toNat,by omega⟩;simp only[pK,XG,mV,cM];have U:acc.length<=900000:=by simp at D;omega
  obtain⟨q,XI,H,h4,L⟩:=ML (γ:=Step (Int×List Int) (Ex (List Int) (List Int×Option Int))) (step:=fun (B:Int×(List Int))=>
    bif (cm .gtr B.1 (127:Int)) then
     (Sw.app B.2 ([(ar .or .u8 (IntKind.wrap .u8 B.1) (128:Int))]:(List Int))).bind fun X=>
      some (.next ((sh .shr .i64 B.1 (7:Int)),X))
    else
     some (.done (.WB (B.1,B.2))))
   (k:=fun (I:Int×(List Int))=>(Sw.app I.2 ([(IntKind.wrap .u8 I.1)]:(List Int))).bind fun aa=>some (.next ((ar .add .i64 (C.length:Int) (1:Int)),aa)))
   (by
    intro n acc V h2 H;have:cm .gtr (n:Int) 127=true:=by simp[cm];omega
    simp only[this,XG];rw[Dh,TR ⟨n % 256,lv _ (by decide)⟩,VD _ _ (by simp;omega),TS];simp only[cM]
    rw[Nat.mod_mod_of_dvd _ (by decide:128 ∣ 256)])
   (by
    intro n acc V;have:cm .gtr (n:Int) 127=false:=by simp[cm];omega
    simp[this]) m acc (by omega) U
  have ac:=(Nh 4 m (by omega)).2;have ad:XI.length+1=acc.length+(vf 4 m).length:=by
   have:=congrArg List.length L;simpa using this
  rw[H];simp only[Dh];rw[VD _ _ (by simp at D;simp;omega),N2 (by omega:q<256),L,GY (n:=C.length) (m:=1000000) (by simp at D;omega) (by omega)];refine⟨by simp,by simp;omega⟩
 ·intro acc _;simp[dR]
theorem Ye{f:fF}(h:Good f):(bQ f).length<=1000000:=by
 have:=(rE h).2;simp[bQ,u1];omega
end Go.WM
namespace Go.WM
open Go.Pl
open Go Go.Sw Go.Mo
theorem cl(m n:Int):cm .lss m n=decide (m<n):=rfl
theorem cg(m n:Int):cm .gtr m n=decide (m>n):=rfl
theorem yp(m n:Int):cm .leq m n=decide (m<=n):=rfl
theorem I2(m n:Int):cm .geq m n=decide (m>=n):=rfl
theorem ce(m n:Int):cm .eql m n=decide (m=n):=by show (m==n)=_;by_cases h:m=n<;>simp[h]
theorem cn(m n:Int):cm .neq m n=decide (m≠n):=by show (m != n)=_;by_cases h:m=n<;>simp[h]
theorem ZN{m n:Int}(h: -9223372036854775808<=m+n/\m+n<=9223372036854775807):ar .add .i64 m n=m+n:=wrap_i64 h
theorem L5{m n:Int}(h: -9223372036854775808<=m - n/\m - n<=9223372036854775807):ar .sub .i64 m n=m - n:=wrap_i64 h
theorem o8{n:Nat}(h:n<=4611686018427387904):ar .add .i64 (n:Int) 1=((n+1:Nat):Int):=by rw[ZN (by omega)];push_cast;rfl
theorem Bytes.tail{x:Int}{l:List Int}(h:Bytes (x::l)):Bytes l:=fun y u=>h y (by simp[u])
theorem Bytes.head{x:Int}{l:List Int}(h:Bytes (x::l)):0<=x/\x<=255:=h x (by simp)
def Vb:List Int->Int×Bool×List Int
 | []=>(0,false,[])
 |b::r=>(b,true,r)
theorem Si(l:List Int)(hl:l.length<=1000000):eY l=some (Vb l):=by
 unfold eY;cases l with
 |nil=>rfl
 |cons b r=>
  have:¬((b::r).length:Int)=0:=by simp;omega
  rw[ce];simp only[this,A6,pF];have h:Sw.idx (b::r) 0=some b:=rfl;have u:Sw.sub (b::r) 1 ((b::r).length:Int)=some r:=by
   unfold Sw.sub;rw[WJ (by simp;omega)];simp
  rw[h,u];rfl
def wV:Nat->Nat->Nat->List Int->Int×Bool×List Int
 | 0,_,_,l=>(0,false,l)
 |_+1,_,_,[]=>(0,false,[])
 |k+1,i,v,b::l=>if b<128 then (((v+b.toNat % 128*128 ^ i:Nat):Int),decide (v+b.toNat % 128*128 ^ i<=2147483647) && (decide (0<b) || decide (i=0)),l) else wV k (i+1) (v+b.toNat % 128*128 ^ i) l
theorem TT:∀a:Fin 256,ar .and .u8 ((a.1:Nat):Int) 127=((a.1 % 128:Nat):Int):=by decide+kernel
theorem RX{b:Int}(h:0<=b/\b<=255):ar .and .u8 b 127=((b.toNat % 128:Nat):Int):=by
 have:=TT ⟨b.toNat,by omega⟩;have e:((b.toNat:Nat):Int)=b:=by omega
 simpa[e] using this
theorem RY(i:Nat):128 ^ i=2 ^ (7*i):=by rw[Nat.pow_mul]
theorem TU{c i:Nat}(hi:i<=4)(hc:c<128):sh .shl .i64 (c:Int) ((7*i:Nat):Int)=((c*128 ^ i:Nat):Int):=by
 show IntKind.wrap .i64 ((c:Int)*2 ^ min ((7*i:Nat):Int).toNat (IntKind.bits .i64))=_;rw[m6,show IntKind.bits .i64=64 from rfl,px (by omega),RY];have h:2 ^ (7*i)<=2 ^ 28:=aD9 (by decide) (by omega);have u:c*2 ^ (7*i)<=127*2 ^ 28:=aCu (by omega) h;have e:(c:Int)*2 ^ (7*i)=((c*2 ^ (7*i):Nat):Int):=by push_cast;rfl
 rw[e,wrap_i64 (by omega)]
theorem TV{a b:Nat}(ha:a<4611686018427387904)(hb:b<4611686018427387904):ar .or .i64 (a:Int) (b:Int)=((a ||| b:Nat):Int):=by
 have h:a ||| b<2 ^ 62:=aD1 (by simpa using ha) (by simpa using hb)
 show IntKind.wrap .i64 ((BitVec.ofInt 64 (a:Int) ||| BitVec.ofInt 64 (b:Int)).toNat:Int)=_;simp only[rZ,BitVec.toNat_or,zg];rw[N2 (a:=a) (by omega),N2 (a:=b) (by omega)];exact wrap_i64 (by omega)
theorem RZ{v c i:Nat}(hi:i<=4)(hc:c<128)(hv:v<128 ^ i):ar .or .i64 (v:Int) ((c*128 ^ i:Nat):Int)=((v+c*128 ^ i:Nat):Int):=by
 have h:128 ^ i<=128 ^ 4:=aD9 (by decide) hi;have u:c*128 ^ i<=127*128 ^ 4:=aCu (by omega) h;rw[TV (by omega) (by omega)];congr 1;rw[RY] at*;have:=aEa hv c;rw[Nat.shiftLeft_eq] at this;rw[Nat.or_comm,<-this,aDf]
theorem SA{v c i:Nat}(hc:c<128)(hv:v<128 ^ i):v+c*128 ^ i<128 ^ (i+1):=by
 rw[aEf];have:c*128 ^ i<=127*128 ^ i:=ug _ (by omega);omega
theorem PK(l:List Int)(hb:Bytes l)(hl:l.length<=1000000):gE l=some (wV 5 0 0 l):=by
 unfold gE;have M:∀(k i v:Nat) (l:List Int) (f:Nat),i+k=5->v<128 ^ i->Bytes l->l.length<=1000000->k<f->
   ∃e,loop (fun (h:Int×Int×(List Int))=>
  bif (cm .lss h.2.1 (35:Int)) then
   (eY h.2.2).bind fun u=>
    bif (!u.2.1) then
     some (.done (.ret ((0:Int),false,u.2.2)))
    else
     (nn h.2.1).bind fun _=>
      bif (cm .lss u.1 (128:Int)) then
       (bif (cm .leq (ar .or .i64 h.1 (sh .shl .i64 (ar .and .u8 u.1 (127:Int)) h.2.1)) (2147483647:Int)) then
        bif (cm .gtr u.1 (0:Int)) then
         some true
        else
         some (cm .eql h.2.1 (0:Int))
       else
        some false).bind fun T=>
        some (.done (.ret ((ar .or .i64 h.1 (sh .shl .i64 (ar .and .u8 u.1 (127:Int)) h.2.1)),T,u.2.2)))
      else
       some (.next ((ar .or .i64 h.1 (sh .shl .i64 (ar .and .u8 u.1 (127:Int)) h.2.1)),(ar .add .i64 h.2.1 (7:Int)),u.2.2))
  else
   some (.done (.WB h.2.2))
  ) f ((v:Int),((7*i:Nat):Int),l)=some e/\out (fun (U:List Int)=>some ((0:Int),false,U)) e=some (wV k i v l):=by
  intro k
  induction k with
  |zero=>
   intro i v l f R I hb hl S;obtain⟨f,rfl⟩:∃f',f=f'+1:=⟨f - 1,by omega⟩;have N:i=5:=by omega
   subst N;exact⟨.WB l,rfl,rfl⟩
  |succ k V=>
   intro i v l f R I hb hl S;obtain⟨f,rfl⟩:∃f',f=f'+1:=⟨f - 1,by omega⟩;have O:cm .lss ((7*i:Nat):Int) 35=true:=by rw[cl];simp;omega
   have P:nn ((7*i:Nat):Int)=some ():=by unfold nn;rw[WJ (by omega)]
   simp only[loop,O,XG,Si l hl,cM];cases l with
   |nil=>exact⟨.ret (0,false,[]),by simp[Vb],rfl⟩
   |cons b l=>
    have Q:=hb.head;have D:b.toNat % 128<128:=lv _ (by decide);simp only[Vb,lx,pF,P,cM,RX Q,TU (by omega:i<=4) D,RZ (by omega:i<=4) D I,cl,yp,cg,ce];by_cases A:b<128
    ·simp only[A,cz,XG];refine⟨.ret (((v+b.toNat % 128*128 ^ i:Nat):Int),decide (v+b.toNat % 128*128 ^ i<=2147483647) && (decide (0<b) || decide (i=0)),l),?_,?_⟩
     ·by_cases E:v+b.toNat % 128*128 ^ i<=2147483647
      ·have B:((v+b.toNat % 128*128 ^ i:Nat):Int)<=2147483647:=by omega
       by_cases F:b>0
       ·have G:0<b:=F;simp only[B,E,G,gt_iff_lt,cz,XG,cM,aEp,Bool.true_or]
       ·have G:¬0<b:=F;have H:(((7*i:Nat):Int)=0)↔i=0:=by omega
        simp only[B,E,F,G,H,cz,A6,XG,pF,cM,aEp,Bool.false_or]
      ·have B:¬((v+b.toNat % 128*128 ^ i:Nat):Int)<=2147483647:=by omega
       simp only[B,E,A6,pF,cM,Bool.false_and]
     ·simp only[out,wV,A,ZU]
    ·simp only[A,A6,pF];have H:ar .add .i64 ((7*i:Nat):Int) 7=((7*(i+1):Nat):Int):=by rw[ZN (by omega)];push_cast;omega
     rw[H];obtain⟨e,K,C⟩:=V (i+1) (v+b.toNat % 128*128 ^ i) l f (by omega) (SA D I) hb.tail (by simp at hl;omega) (by omega);refine⟨e,K,?_⟩;rw[C];simp only[wV,A,ZW]
 obtain⟨e,K,C⟩:=M 5 0 0 l fJ rfl (by decide) hb hl (by unfold fJ;omega);unfold lp;have L:=K;simp only[Nat.mul_zero] at L;rw[show ((0:Int),(0:Int),l)=(((0:Nat):Int),((0:Nat):Int),l) from rfl,L];cases e with
 | WB y=>exact C
 |ret z=>exact C
theorem Vc:∀(k i v:Nat) (l:List Int),(wV k i v l).2.2.length<=l.length
 | 0,_,_,l=>YO _
 |_+1,_,_,[]=>YO _
 |k+1,i,v,b::l=>by
  unfold wV;split
  ·simp
  ·exact db (Vc k _ _ l) (by simp)
theorem AU:∀(k i v:Nat) (l r:List Int) (w:Int),i+k=5->v<128 ^ i->Bytes l->wV k i v l=(w,true,r)->
  ∃q:Nat,w=((v+q*128 ^ i:Nat):Int)/\v+q*128 ^ i<=2147483647/\l=vf (k - 1) q++r/\(0<i->0<q)
 | 0,_,_,_,_,_,_,_,_,h=>by simp[wV] at h
 |_+1,_,_,[],_,_,_,_,_,h=>by simp[wV] at h
 |k+1,i,v,b::l,r,w,P,K,B,h=>by
  have L:=B.head;unfold wV at h;split at h
  ·rename_i H;have C:b.toNat % 128=b.toNat:=N2 (by omega);simp only[ak,D1,yx,aC1,C] at h;obtain⟨rfl,⟨u,z⟩,rfl⟩:=h;refine⟨b.toNat,rfl,u,?_,fun O=>by omega⟩;have e:((b.toNat:Nat):Int)=b:=by omega
   cases k with
   |zero=>simp[vf,e]
   |succ k=>simp only[aDt];unfold vf;rw[WJ (by omega),e];rfl
  ·rename_i H;have D:b.toNat % 128<128:=lv _ (by decide);obtain⟨q,u,z,A,I⟩:=AU k (i+1) (v+b.toNat % 128*128 ^ i) l r w (by omega) (SA D K) B.tail h;have M:0<k:=by
    cases k with
    |zero=>simp[wV] at h
    |succ k=>omega
   obtain⟨k,rfl⟩:∃k',k=k'+1:=⟨k - 1,by omega⟩;have e:v+b.toNat % 128*128 ^ i+q*128 ^ (i+1)=v+(b.toNat % 128+128*q)*128 ^ i:=by rw[aEf,I6];rw[aEd 128 q,Nat.mul_assoc q 128,aEd 128 (128 ^ i)];omega
   have N:=I (by omega);refine⟨b.toNat % 128+128*q,by rw[u,e],by rw[<-e];exact z,?_,fun _=>by omega⟩;simp only[aDt] at A ⊢;unfold vf;rw[WA (by omega),A];have E:(b.toNat % 128+128*q) % 128=b.toNat % 128:=by omega
   have F:(b.toNat % 128+128*q) / 128=q:=by omega
   rw[E,F];have G:((128+b.toNat % 128:Nat):Int)=b:=by omega
   rw[G];rfl
theorem AV:∀(k i v q:Nat) (r:List Int),i+k=4->v+q*128 ^ i<=2147483647->(0<i->0<q)->wV (k+1) i v (vf k q++r)=(((v+q*128 ^ i:Nat):Int),true,r)
 | 0,i,v,q,r,C,z,u=>by
  have A:i=4:=by omega
  subst A;have h:q<128:=by omega
  have u:=u (by omega);have e:q % 128=q:=N2 h;simp only[vf,ek,Y7,wV,m6,e];rw[WJ (by omega)];simp;omega
 |k+1,i,v,q,r,C,z,u=>by
  unfold vf;by_cases h:q<128
  ·have e:q % 128=q:=N2 h;simp only[h,ZU,ek,Y7,wV,m6,e];rw[WJ (by omega)];simp;omega
  ·simp only[h,ZW,ek,wV,m6];rw[WA (by omega)];have B:(128+q % 128) % 128=q % 128:=by omega
   have e:v+q % 128*128 ^ i+q / 128*128 ^ (i+1)=v+q*128 ^ i:=by
    rw[aEf];have:q*128 ^ i=(q % 128+128*(q / 128))*128 ^ i:=by rw[Nat.mod_add_div]
    rw[this,I6,aEd 128 (q / 128),Nat.mul_assoc,aEd 128 (128 ^ i)];omega
   rw[B,AV k (i+1) (v+q % 128*128 ^ i) (q / 128) r (by omega) (by rw[e];exact z) (fun _=>by omega),e]
def Ab:Nat->List Int->List Int->Option (List Int×List Int)
 | 0,acc,l=>some (l,acc)
 |n+1,acc,l=>if (wV 5 0 0 l).2.1 then Ab n (acc++[(wV 5 0 0 l).1]) (wV 5 0 0 l).2.2 else none
theorem Gi:∀(k i v:Nat) (l:List Int),Bytes l->Bytes (wV k i v l).2.2
 | 0,_,_,l,h=>h
 |_+1,_,_,[],h=>h
 |k+1,i,v,b::l,h=>by
  unfold wV;split
  ·exact h.tail
  ·exact Gi k _ _ l h.tail
theorem Ni:∀(n:Nat) (acc l r XI:List Int),Bytes l->Ab n acc l=some (r,XI)->∃ns,XI=acc++ns/\ns.length=n/\(∀x∈ns,0<=x/\x<=2147483647)/\l=vs ns++r
 | 0,acc,l,r,XI,_,h=>by
  simp only[Ab,A7,ak] at h;obtain⟨rfl,rfl⟩:=h;exact⟨[],by simp,rfl,fun x u=>by simp at u,rfl⟩
 |n+1,acc,l,r,XI,A,h=>by
  unfold Ab at h;split at h
  ·rename_i B;obtain⟨ns,C,D,E,F⟩:=Ni n _ _ r XI (Gi _ _ _ _ A) h;obtain⟨q,z,G,H,_⟩:=AU 5 0 0 l (wV 5 0 0 l).2.2 (wV 5 0 0 l).1 rfl (by decide) A (by rw[<-B]);simp only[Nat.pow_zero,Nat.mul_one,za] at z G;refine⟨(q:Int)::ns,by rw[C,z];simp,by simp[D],fun x u=>?_,?_⟩
   ·rcases m5.1 u with rfl | u
    ·omega
    ·exact E x u
   ·have e:vs ((q:Int)::ns)=vf 4 q++vs ns:=by simp[vs]
    rw[H,F,e,A8]
  ·cases h
theorem Vd:∀(ns acc r:List Int),(∀x∈ns,0<=x/\x<=2147483647)->Ab ns.length acc (vs ns++r)=some (r,acc++ns)
 | [],acc,r,_=>by simp[Ab,vs]
 |x::ns,acc,r,h=>by
  have A:=h x (by simp);have e:vs (x::ns)++r=vf 4 x.toNat++(vs ns++r):=by simp[vs]
  have g:=AV 4 0 0 x.toNat (vs ns++r) rfl (by omega) (fun h=>by omega);simp only[Nat.pow_zero,Nat.mul_one,za] at g;have u:((x.toNat:Nat):Int)=x:=by omega
  rw[e,D2,Ab,g];simp only[ZU,u];rw[Vd ns _ r (fun y z=>h y (by simp[z]))];simp
theorem Ki{c l:List Int}(hc:c.length=8):Sw.chunks 8 (c++l)=c::Sw.chunks 8 l:=by
 unfold Sw.chunks;have e:((c++l).length+8 - 1) / 8=(l.length+8 - 1) / 8+1:=by rw[sM,hc];omega
 rw[e,List.range_succ_eq_map,E5,aEu];congr 1
 ·rw[Nat.zero_mul,List.drop_zero,List.take_append_of_le_length (by omega),aCa (by omega)]
 ·apply List.map_congr_left;intro k _;simp only[Function.comp_apply,Nat.succ_eq_add_one];rw[show (k+1)*8=c.length+k*8 by omega,aD5];congr 1;simp
theorem Kj:∀(bs:List aQ),(∀b∈bs,b.length=8)->Sw.chunks 8 bs.flatten=bs
 | [],_=>rfl
 |b::bs,h=>by rw[aC0,Ki (h b (by simp)),Kj bs (fun c u=>h c (by simp[u]))]
theorem Di:∀(m:Nat) (l:List Int),l.length=8*m->(Sw.chunks 8 l).flatten=l/\(∀b∈Sw.chunks 8 l,b.length=8)/\(Sw.chunks 8 l).length=m
 | 0,l,h=>by
  have:l=[]:=List.length_eq_zero_iff.1 (by omega);subst this;exact⟨rfl,fun b u=>by simp[Sw.chunks] at u,rfl⟩
 |m+1,l,h=>by
  have e:l=l.take 8++l.drop 8:=(X2 8 l).symm;have z:(l.take 8).length=8:=by simp;omega
  obtain⟨A,B,C⟩:=Di m (l.drop 8) (by simp;omega);rw[e,Ki z];refine⟨by rw[aC0,A],fun b u=>?_,by simp[C]⟩;rcases m5.1 u with rfl | u
  ·exact z
  ·exact B b u
theorem IA{l:List Int}{bs:List aQ}(h:bs.flatten=l)(hb:Bytes l):∀b∈bs,Bytes b:=fun b u x z=>hb x (by rw[<-h];exact List.mem_flatten.2 ⟨b,u,z⟩)
def Je:List Int->Option fF
 |b0::b1::r=>match Ab (b0.toNat % 16) [] r with
  |some (rest,h)=>if b1>32\/h.length>12\/(rest.length:Int)≠8*b1 then none else some (((b0.toNat / 16:Nat):Int),h,Sw.chunks 8 rest)
  |none=>none
 |_=>none
theorem AW{n:Nat}(h:n<256):IntKind.wrap .u8 (n:Int)=n:=by rw[Dh];omega
theorem Sj{f:fF}(g:Good f):Hs f=[((16*f.1.toNat+f.2.1.length:Nat):Int),(f.2.2.length:Int)]:=by
 have h:=g.s0;have u:=g.s1;have z:=g.ns;have A:=g.bs;unfold Hs;have e:ar .add .i64 (ar .mul .i64 16 f.1) (f.2.1.length:Int)=((16*f.1.toNat+f.2.1.length:Nat):Int):=by
  have:ar .mul .i64 16 f.1=16*f.1:=wrap_i64 (by omega);rw[this,ZN (by omega)];omega
 rw[e,AW (by omega),AW (by omega)]
theorem DI{b:List Int}{f:fF}(hb:Bytes b)(h:Je b=some f):Good f/\dT f=0/\body f=b:=by
 match b,h with
 |b0::b1::r,h=>
  have P:=hb.head;have Q:=hb.tail.head;have z:=hb.tail.tail;simp only[Je] at h;cases hn:Ab (b0.toNat % 16) [] r with
  |none=>rw[hn] at h;cases h
  |some p=>
   obtain⟨rest,K⟩:=p;rw[hn] at h;simp only at h;split at h
   ·cases h
   ·rename_i R;simp only[A7] at h;subst h;obtain⟨S,B,L,C,D⟩:=Ni _ _ _ _ _ z hn;simp only[Y7] at B;subst B;obtain⟨E,M,N⟩:=Di b1.toNat rest (by omega);have F:Bytes rest:=fun x u=>z x (by rw[D];simp[u]);have A:Good (((b0.toNat / 16:Nat):Int),K,Sw.chunks 8 rest):=⟨by simp only;omega,by simp only;omega,by simp only;omega,by simp only;omega,C,fun b hb=>⟨M b hb,IA E F b hb⟩⟩;refine⟨A,?_,?_⟩
    ·unfold dT;rw[WA (by simp only;omega),WA (by simp only;omega),WA];intro I;obtain⟨x,u,O⟩:=aDc.1 I;have:=C x u;simp[wO] at O;omega
    ·unfold body;rw[Sj A];simp only[E,N,L,ek,Y7];rw[D];have G:((16*(((b0.toNat / 16:Nat):Int)).toNat+b0.toNat % 16:Nat):Int)=b0:=by rw[m6];omega
     have H:((b1.toNat:Nat):Int)=b1:=by omega
     rw[G,H]
theorem Ve{f:fF}(g:Good f):Je (body f)=some f:=by
 have B:=g.s0;have C:=g.s1;have D:=g.ns;have E:=g.bs;unfold body;rw[Sj g];simp only[ek,Y7,Je,m6];have h:(16*f.1.toNat+f.2.1.length) % 16=f.2.1.length:=by omega
 have u:(16*f.1.toNat+f.2.1.length) / 16=f.1.toNat:=by omega
 rw[h,u,Vd _ _ _ g.num];simp only[Y7];have F:=(p8 g.YN).2;rw[WA (by omega),Kj _ (fun b A=>(g.YN b A).1)];have z:((f.1.toNat:Nat):Int)=f.1:=by omega
 rw[z]
end Go.WM
namespace Go.WM
open Go.Pl
open Go Go.Sw Go.Mo
def eZ(a:List Int):Option fF:=
 if a.length<6 then none else if a.drop (a.length - 4)=u1 (4294967295 - Aa (nat (a.take (a.length - 4)))) then Je (a.take (a.length - 4)) else none
theorem PL{n c:Nat}(hc:c<=32):sh .shr .u32 (n:Int) (c:Int)=((n / 2 ^ c:Nat):Int):=by
 show Int.fdiv _ _=_;rw[m6,show IntKind.bits .u32=32 from rfl,px hc,vg _ (aEc (aEx (by decide)))];push_cast;rfl
theorem MM{S:Nat}(h:S<4294967296): [(IntKind.wrap .u8 (sh .shr .u32 (S:Int) (24:Int))),(IntKind.wrap .u8 (sh .shr .u32 (S:Int) (16:Int))),(IntKind.wrap .u8 (sh .shr .u32 (S:Int) (8:Int))),(IntKind.wrap .u8 (S:Int))]=u1 S:=by
 rw[show (24:Int)=((24:Nat):Int) from rfl,show (16:Int)=((16:Nat):Int) from rfl,show (8:Int)=((8:Nat):Int) from rfl,PL (by decide),PL (by decide),PL (by decide),Dh,Dh,Dh,Dh];unfold u1;have e:S / 2 ^ 24 % 256=S / 16777216:=by omega
 rw[e]
theorem SB:∀a:Fin 256,ar .and .u8 ((a.1:Nat):Int) 15=((a.1 % 16:Nat):Int):=by decide+kernel
theorem PM{b:Int}(h:0<=b/\b<=255):ar .and .u8 b 15=((b.toNat % 16:Nat):Int):=by
 have:=SB ⟨b.toNat,by omega⟩;have e:((b.toNat:Nat):Int)=b:=by omega
 simpa[e] using this
theorem TW:∀a:Fin 256,sh .shr .u8 ((a.1:Nat):Int) 4=((a.1 / 16:Nat):Int):=by decide+kernel
theorem SC{b:Int}(h:0<=b/\b<=255):sh .shr .u8 b 4=((b.toNat / 16:Nat):Int):=by
 have:=TW ⟨b.toNat,by omega⟩;have e:((b.toNat:Nat):Int)=b:=by omega
 simpa[e] using this
theorem TX{n:Nat}(h:n<200):ar .add .u8 (n:Int) 1=((n+1:Nat):Int):=by
 show IntKind.wrap .u8 ((n:Int)+1)=_;have:(n:Int)+1=((n+1:Nat):Int):=by push_cast;rfl
 rw[this,AW (by omega)]
theorem Qo{z:fF×Option Int}(N:Nat)(hN:N<=15):∀(n j:Nat) (l acc:List Int) (f:Nat),j+n=N->Bytes l->l.length<=1000000->acc.length+n<=1000->n<f->
  loop (β:=Ex ((List Int)×(List Int)) (fF×Option Int)) (fun (D6:Int×(List Int)×(List Int))=>
                bif (cm .lss D6.1 (N:Int)) then
                 (gE D6.2.1).bind fun ZR=>
                  bif (!ZR.2.1) then
                   some (.done (.ret z))
                  else
                   (Sw.app D6.2.2 ([ZR.1]:(List Int))).bind fun G8=>
                    some (.next ((ar .add .u8 D6.1 (1:Int)),ZR.2.2,G8))
                else
                 some (.done (.WB (D6.2.1,D6.2.2)))
                ) f ((j:Int),l,acc)=some (match Ab n acc l with | some p=> .WB p | none=> .ret z)
 | 0,j,l,acc,f,B,u,A,C,D=>by
  obtain⟨f,rfl⟩:∃f',f=f'+1:=⟨f - 1,by omega⟩;have:cm .lss (j:Int) (N:Int)=false:=by rw[cl];simp;omega
  simp only[loop,this,pF,Ab]
 |n+1,j,l,acc,f,B,u,A,C,D=>by
  obtain⟨f,rfl⟩:∃f',f=f'+1:=⟨f - 1,by omega⟩;have:cm .lss (j:Int) (N:Int)=true:=by rw[cl];simp;omega
  simp only[loop,this,XG,PK l u A,cM,Ab];by_cases h:(wV 5 0 0 l).2.1=true
  ·simp only[h,lx,pF,ZU];rw[VD _ _ (by simp;omega),cM,TX (by omega)];exact Qo N hN n (j+1) _ _ f (by omega) (Gi _ _ _ _ u) (db (Vc _ _ _ _) A) (by simp;omega) (by omega)
  ·simp only[uh] at h;simp only[h,ve,XG,O2,ZW]
theorem AX:∀(its acc:List aQ),(∀i∈its,i.length=8)->acc.length+its.length<=1000000->
  Z8 (δ:=Empty) (fun (vk:(List Int)) (br:(List aQ))=>
    (Sw.q7 8 vk).bind fun z46=>
     (Sw.app br ([z46]:(List aQ))).bind fun wh=>
      some (.next wh)
    ) its acc=some (.WB (acc++its))
 | [],acc,_,_=>by simp[Z8]
 |i::is,acc,h,u=>by
  have A:=h i (by simp);have e:Sw.q7 8 i=some i:=by unfold Sw.q7;rw[WJ (by omega),aCa (by omega)]
  simp only[Z8,e,cM];rw[VD _ _ (by simp at u ⊢;omega)];simp only[cM];rw[AX is _ (fun j z=>h j (by simp[z])) (by simp at u ⊢;omega)];simp
theorem qF(a:List Int)(hb:Bytes a)(hl:a.length<=10000):fM a=some (match eZ a with | some f=>(f,none) | none=>((0,[],[]),some 3)):=by
 unfold fM eZ;rw[cl];by_cases G:a.length<6
 ·have:(a.length:Int)<6:=by omega
  simp[G,this]
 have O:¬(a.length:Int)<6:=by omega
 simp only[G,O,A6,pF,ZW];generalize hL:a.length - 4=L;have P:ar .sub .i64 (a.length:Int) 4=(L:Int):=by rw[L5 (by omega)];omega
 have Q:Sw.sub a 0 (L:Int)=some (a.take L):=by unfold Sw.sub;rw[WJ (by omega)];simp
 have B:(a.take L).length=L:=by simp;omega
 have R:Sw.sub a (L:Int) (a.length:Int)=some (a.drop L):=by unfold Sw.sub;rw[WJ (by omega)];simp
 have ab:(a.drop L).length=4:=by simp;omega
 have S:Sw.q7 4 (a.drop L)=some (a.drop L):=by unfold Sw.q7;rw[WJ (by omega),aCa (by omega)]
 have C:Bytes (a.take L):=fun x hx=>hb x (aCo hx);have T:=HY (a.take L) C (by omega);rw[P,Q,cM,T,cM,B,R,cM,S,cM,MM (by omega)];by_cases H:a.drop L=u1 (4294967295 - Aa (nat (a.take L)))
 ·simp only[H,cz,lx,pF,ZU];generalize hp:a.take L=p at*
  match p,B with
  | [],h=>simp at h;omega
  | [_],h=>simp at h;omega
  |b0::b1::r,B=>
   have I:=C.head;have I0:=C.tail.head;have K:=C.tail.tail;have M3:r.length<=10000:=by simp at B;omega
   rw[Si _ (by simp;omega),cM];simp only[Vb];rw[Si _ (by simp;omega),cM];simp only[Vb,PM I,SC I,Je];have U:=Qo (z:=((0,[],[]),some 3)) (b0.toNat % 16) (by omega) (b0.toNat % 16) 0 r [] fJ (by omega) K (by omega) (by simp;omega) (by unfold fJ;omega);unfold lp;rw[show ((0:Int),r,([]:List Int))=(((0:Nat):Int),r,([]:List Int)) from rfl,U];cases hn:Ab (b0.toNat % 16) [] r with
   |none=>rfl
   |some q=>
    obtain⟨u,E⟩:=q;obtain⟨ac,N,h2,h3,h4⟩:=Ni _ _ _ _ _ K hn;simp only[Y7] at N;subst N;have ZS:u.length<=r.length:=by rw[h4];simp
    have V:ar .mul .i64 b1 8=8*b1:=by show IntKind.wrap .i64 _=_;rw[wrap_i64 (by omega)];omega
    simp only[cg,cn,V];by_cases D:b1>32
    ·simp[D]
    by_cases F:E.length>12
    ·have A:(E.length:Int)>12:=by omega
     simp[D,F,A]
    by_cases M:(u.length:Int)≠8*b1
    ·have A:¬(E.length:Int)>12:=by omega
     simp[D,F,A,M]
    have A:¬(E.length:Int)>12:=by omega
    have X:(u.length:Int)=8*b1:=aC5.1 M;obtain⟨g1,g2,g3⟩:=Di b1.toNat u (by omega);have bc:jW u 8=some (u,8):=rfl;have aa:small u=some ():=by unfold small;rw[WJ (by omega)]
    have sy:nx 8=some ():=by decide
    simp only[D,F,A,X,ne_eq,aEz,A6,pF,cM,aE0,ZW,bc,aa,sy,rg];rw[show Int.toNat 8=8 from rfl,AX _ _ g2 (by simp;omega)];simp
 ·simp only[H,A6,ve,XG,ZW]
theorem Gj{a:List Int}{f:fF}(hb:Bytes a)(h:eZ a=some f):Good f/\dT f=0/\bQ f=a:=by
 unfold eZ at h;split at h
 ·cases h
 ·split at h
  ·rename_i D u;obtain⟨A,B,C⟩:=DI (fun x z=>hb x (aCo z)) h;refine⟨A,B,?_⟩;unfold bQ;rw[C,<-u,X2]
  ·cases h
theorem kE{f:fF}(g:Good f):eZ (bQ f)=some f:=by
 have A:2<=(body f).length:=by unfold body;rw[Sj g];simp
 have h:(bQ f).length=(body f).length+4:=by simp[bQ,u1]
 have u:(bQ f).take ((bQ f).length - 4)=body f:=by rw[h,aDt];unfold bQ;simp
 have z:(bQ f).drop ((bQ f).length - 4)=u1 (4294967295 - Aa (nat (body f))):=by rw[h,aDt];unfold bQ;simp
 unfold eZ;rw[WA (by omega),u,z,WJ rfl,Ve g]
end Go.WM
namespace Go.WM
open Go.Pl
open Go Go.Sw Go.Mo
theorem o6{α β:Type}{step:α->Option (Step α β)}{x y:α}{f:Nat}(h:step x=some (.next y)):loop step (f+1) x=loop step f y:=by simp only[loop,h]
theorem j7{α β:Type}{step:α->Option (Step α β)}{x:α}{b:β}{f:Nat}(h:step x=some (.done b)):loop step (f+1) x=some b:=by simp only[loop,h]
end Go.WM
namespace Go.WM
open Go.Pl
open Go Go.Sw Go.Mo
end Go.WM
namespace Go.WM
open Go.Pl
open Go Go.Sw Go.Mo
theorem Yf{S:Nat}(h:S<4294967296):Bytes (u1 S):=fun x u=>by
 simp only[u1,m5,aCs,aEt] at u;rcases u with rfl | rfl | rfl | rfl<;>omega
theorem wW{f:fF}(g:Good f):Bytes (bQ f):=fun x h=>by
 unfold bQ at h;rcases K9.1 h with h | h
 ·exact(rE g).1 x h
 ·exact Yf (by omega) x h
end Go.WM
namespace Go.WM
open Go.Pl
open Go Go.Sw Go.Mo
theorem IB(x:Int):pR x=some (wO x):=by
 unfold pR wO;by_cases h:x<0
 ·have:cm .lss x 0=true:=by simp[cm,h]
  simp[this,h]
 ·have:cm .lss x 0=false:=by simp[cm];omega
  simp[this,h,cm]
theorem Sk(l:List Int)(h:l.length<=1000000):cY l=some (l.any wO):=by
 unfold cY dZ;rw[show (0:Int)=((0:Nat):Int) from rfl,Bk (l:=l) (fun i (_:Unit)=>(i:Int)) () (fun i x _=>if wO x then .done (.ret (i:Int)) else .next ()) (fun _=> .WB ()) (by unfold fJ;omega)]
 ·rw[Ux (fun i=>(i:Int)),Uy];cases l.findIdx? wO<;>simp[out,cm]
 ·rintro u x z acc rfl;simp only[pK,XG,mV,cM,IB,GY (n:=u.length) (m:=1000000) (by simp at h;omega) (by omega)];cases wO x<;>simp[Ir]
 ·intro _;simp[dR]
theorem j6(a b:Int):qD [a,b]=some (!(wO a || wO b)):=by
 unfold qD;rw[Sk _ (by simp)];simp
theorem l4{x:Int}:wO x=false↔0<=x/\x<=2147483647:=by unfold wO;simp
theorem PN{α A β γ:Type}{step:α->Option (Step α (Ex β γ))}{l:List A}{k:β->Option γ}(st:Nat->α)(z:A->Option γ)(y:β)(hf:l.length<fJ)
  (hs:∀pre x rest,l=pre++x::rest->step (st pre.length)=some (match z x with | some v=> .done (.ret v) | none=> .next (st (pre.length+1)))) (he:step (st l.length)=some (.done (.WB y))):
  lp step (st 0) k=(l.findSome? z).elim (k y) some:=by
 have u:∀(rest pre:List A) (f:Nat),l=pre++rest->rest.length<f->loop step f (st pre.length)=some (match rest.findSome? z with | some v=> .ret v | none=> .WB y):=by
  intro rest
  induction rest with
  |nil=>
   intro pre f h hf;obtain⟨f,rfl⟩:∃f',f=f'+1:=⟨f - 1,by simp at hf;omega⟩;rw[X1] at h;rw[<-h];simp[loop,he]
  |cons x rest B=>
   intro pre f h hf;obtain⟨f,rfl⟩:∃f',f=f'+1:=⟨f - 1,by simp at hf;omega⟩;simp only[loop,hs pre x rest h,List.findSome?_cons];cases hz:z x with
   |some v=>simp
   |none=>
    have:=B (pre++[x]) f (by rw[h];simp) (by simp at hf;omega);simpa using this
 have:=u l [] fJ rfl hf;unfold lp;simp only[T6] at this;rw[this];cases l.findSome? z<;>rfl
def dM(f:fF):Int:=if dT f=0 then (if 9<f.2.1.length then 2 else 0) else dT f
theorem AY(f:fF):tU f=some (if dM f=0 then none else some (dM f)):=by
 unfold tU dM;rw[Fk,cM,cg];by_cases h:dT f=0
 ·simp only[h,ZU,ZV,pF];by_cases u:9<f.2.1.length
  ·have:(f.2.1.length:Int)>9:=by omega
   simp[u,this]
  ·have:¬(f.2.1.length:Int)>9:=by omega
   simp[u,this]
 ·simp[h]
def uK(l:List fF):Option Int:=l.findSome? fun f=>if dM f=0 then none else some (dM f)
abbrev uL:=Int×Int×List fF
def jG(s:uL):Int:=if wO s.1 || wO s.2.1 then 1 else if 64<s.2.2.length then 2 else (uK s.2.2).getD 0
theorem Vf{l:List fF}{e:Int}(h:uK l=some e):e≠0:=by
 obtain⟨f,_,u⟩:=List.exists_of_findSome?_eq_some h;split at u
 ·cases u
 ·cases u;assumption
theorem ZL(s:uL):pG s=some (if jG s=0 then none else some (jG s)):=by
 unfold pG jG;rw[j6,cM];by_cases u:(wO s.1 || wO s.2.1)=true
 ·simp[u]
 ·simp only[uh] at u;simp only[u,ve,lx,pF,O2,ZW,cg];by_cases z:64<s.2.2.length
  ·have:(s.2.2.length:Int)>64:=by omega
   simp[z,this]
  ·have:¬(s.2.2.length:Int)>64:=by omega
   simp only[z,this,A6,pF,ZW];rw[show (0:Int)=(fun (i:Nat)=>(i:Int)) 0 from rfl];rw[PN (l:=s.2.2) (fun (i:Nat)=>(i:Int)) (fun f=>if dM f=0 then none else some (some (dM f))) () (by unfold fJ;omega)]
   ·have e:s.2.2.findSome? (fun f=>if dM f=0 then none else some (some (dM f)))=(uK s.2.2).map some:=by
     unfold uK
     induction s.2.2 with
     |nil=>rfl
     |cons f l B=>simp only[List.findSome?_cons];by_cases h:dM f=0<;>simp[h,B]
    rw[e];cases hf:uK s.2.2 with
    |none=>simp
    |some e=>have:=Vf hf;simp[this]
   ·rintro C x D h;rw[h];simp only[pK,XG,mV,cM,AY];rw[o8 (by have:=congrArg List.length h;simp at this;omega)];by_cases A:dM x=0<;>simp[A]
   ·simp[dR]
def Vg(f:fF):Prop:=f.2.1.length<=1000/\f.2.2.length<=1000
theorem Vh{f:fF}(h:dM f=0):Vg f:=by
 unfold dM at h;split at h
 ·rename_i u;unfold dT at u;unfold Vg;split at u
  ·simp at u
  ·split at u
   ·simp at u
   ·omega
 ·exact absurd h (by assumption)
theorem Kk{s:uL}(h:jG s=0):(0<=s.1/\s.1<=2147483647)/\(0<=s.2.1/\s.2.1<=2147483647)/\s.2.2.length<=64/\∀f∈s.2.2,Vg f:=by
 unfold jG at h;split at h
 ·simp at h
 ·rename_i u;simp only[uh,Bool.or_eq_false_iff] at u;split at h
  ·simp at h
  ·rename_i C;refine⟨l4.1 u.1,l4.1 u.2,by omega,fun f B=>Vh ?_⟩;have A:uK s.2.2=none:=by
    cases hf2:uK s.2.2 with
    |none=>rfl
    |some e=>rw[hf2] at h;exact absurd h (Vf hf2)
   have:=List.findSome?_eq_none_iff.1 A f B;by_cases z:dM f=0
   ·exact z
   ·simp[z] at this
theorem Vi(l:List fF)(hl:l.length<=64)(h:∀f∈l,Vg f):rW l=some l:=by
 unfold rW;rw[show ((0:Int),([]:List fF))=(fun (i:Nat) (acc:List fF)=>((i:Int),acc)) 0 [] from rfl];rw[B5 (l:=l) (fun (i:Nat) (acc:List fF)=>((i:Int),acc)) (fun i acc=>acc.length=i) [] (fun _ f acc=>acc++[f]) id (by unfold fJ;omega) rfl]
 ·have:∀(l:List fF) (i:Nat) (acc:List fF),(l.zipIdx i).foldl (fun acc x=>acc++[x.1]) acc=acc++l:=by
   intro l
   induction l with
   |nil=>intro i acc;simp
   |cons x l G=>intro i acc;rw[aCk,R5,G];simp
  rw[this];rfl
 ·intro u x A acc z F;have B:=h x (by rw[z];simp);have H:u.length<64:=by have:=congrArg List.length z;simp at this;omega
  have C:cm .lss (u.length:Int) (l.length:Int)=true:=by rw[z];exact pK u x A
  have D:Sw.idx l (u.length:Int)=some x:=by rw[z];exact mV u x A
  have E:mT x=some x:=by
   unfold mT lD aP;unfold Vg at B;rw[VD _ _ (by simp;omega),VD _ _ (by simp;omega)];rfl
  simp only[C,D,E,XG,cM];rw[VD _ _ (by simp;omega),o8 (by omega)];exact⟨rfl,by simp[F]⟩
 ·intro acc _;simp only[dR,pF];rfl
end Go.WM
namespace Go.WM
open Go.Pl
open Go Go.Sw Go.Mo
theorem J3{α:Type}(l:List α)(n:Nat)(h:n<=l.length):Sw.sub l (n:Int) (l.length:Int)=some (l.drop n):=by
 unfold Sw.sub;rw[WJ (by omega)];simp
theorem Vj{a c:Int}(h1:0<=a/\a<=2147483647)(h2:0<=c/\c<=2147483647):dT ((0:Int),[a,c],([]:List aQ))=0/\Good ((0:Int),[a,c],([]:List aQ)):=by
 have e:dT ((0:Int),[a,c],([]:List aQ))=0:=by
  unfold dT;simp[l4.2 h1,l4.2 h2]
 exact⟨e,qP e (fun b h=>by simp at h)⟩
end Go.WM
namespace Go.WM
open Go.Pl
open Go Go.Sw Go.Mo
def By{A B:Type}(g:Nat->A->B->Option B):Nat->B->List A->Option B
 |_,acc,[]=>some acc
 |i,acc,x::l=>(g i x acc).bind fun h=>By g (i+1) h l
theorem PO{α A B β γ:Type}{step:α->Option (Step α (Ex β γ))}{l:List A}{k:β->Option γ}(st:Nat->B->α)(I:Nat->B->Prop)(YQ:B)(g:Nat->A->B->Option B)(ex:Ex β γ)(fin:B->β)(hf:l.length<fJ)(h0:I 0 YQ)
  (hs:∀pre x rest acc,l=pre++x::rest->I pre.length acc->step (st pre.length acc)=some (match g pre.length x acc with | some XI=> .next (st (pre.length+1) XI) | none=> .done ex)/\∀XI,g pre.length x acc=some XI->I (pre.length+1) XI)
  (he:∀acc,I l.length acc->step (st l.length acc)=some (.done (.WB (fin acc)))):
  lp step (st 0 YQ) k=(By g 0 YQ l).elim (out k ex) (fun acc=>k (fin acc))/\∀acc,By g 0 YQ l=some acc->I l.length acc:=by
 have E:∀(rest pre:List A) (f:Nat) (acc:B),l=pre++rest->rest.length<f->I pre.length acc->loop step f (st pre.length acc)=some ((By g pre.length acc rest).elim ex (fun acc=> .WB (fin acc)))/\∀XI,By g pre.length acc rest=some XI->I l.length XI:=by
  intro rest
  induction rest with
  |nil=>
   intro pre f acc u hf z;obtain⟨f,rfl⟩:∃f',f=f'+1:=⟨f - 1,by simp at hf;omega⟩;rw[X1] at u;rw[<-u] at z ⊢;exact⟨by simp[loop,he acc z,By],fun XI h=>by simp only[By,A7] at h;rw[<-h];exact z⟩
  |cons x rest F=>
   intro pre f acc u hf z;obtain⟨f,rfl⟩:∃f',f=f'+1:=⟨f - 1,by simp at hf;omega⟩;obtain⟨C,D⟩:=hs pre x rest acc u z;simp only[loop,C,By];cases hg:g pre.length x acc with
   |none=>exact⟨by simp,fun XI h=>by simp at h⟩
   |some XI=>
    have:=F (pre++[x]) f XI (by rw[u];simp) (by simp at hf;omega) (by simpa using D XI hg);simpa using this
 obtain⟨C,D⟩:=E l [] fJ YQ rfl hf h0;refine⟨?_,D⟩;unfold lp;simp only[T6] at C;rw[C];cases By g 0 YQ l with
 |none=>cases ex<;>rfl
 |some _=>rfl
def WH(s:uL)(i:Nat)(f:fF):fF:=(1,[s.1,s.2.1+(i:Int),f.1]++f.2.1,f.2.2)
def Qp(s:uL)(i:Nat)(f:fF)(acc:List (List Int)):Option (List (List Int)):=if s.2.1+(i:Int)>2147483647 then none else some (acc++[bQ (WH s i f)])
theorem j8{f:fF}(h:dM f=0):dT f=0/\f.2.1.length<=9:=by
 unfold dM at h;split at h
 ·rename_i u;refine⟨u,?_⟩;split at h
  ·simp at h
  ·omega
 ·exact absurd h (by assumption)
theorem E9{s:uL}{i:Nat}{f:fF}(h1:0<=s.1/\s.1<=2147483647)(h2:0<=s.2.1)(hi:s.2.1+(i:Int)<=2147483647)(hf:dM f=0)(hb:∀b∈f.2.2,b.length=8/\Bytes b):dT (WH s i f)=0/\Good (WH s i f):=by
 obtain⟨E,G⟩:=j8 hf;have g:=qP E hb;have e:dT (WH s i f)=0:=by
  have h:f.2.1.any wO=false:=by
   rw[aEm];intro n D;have:=l4.2 (g.num n D);simp[this]
  have u:=l4.2 h1;have z:wO (s.2.1+(i:Int))=false:=l4.2 ⟨by omega,hi⟩;have A:wO f.1=false:=l4.2 ⟨g.s0,by have:=g.s1;omega⟩;have F:=g.bs;unfold dT WH;have B:¬((1:Int)<0\/(1:Int)>15):=by omega
  have C:¬(([s.1,s.2.1+(i:Int),f.1]++f.2.1).length>12\/f.2.2.length>32):=by simp;omega
  simp only[B,C,ZW];simp[u,z,A,h]
 exact⟨e,qP e hb⟩
def UN(s:uL):Prop:=∀f∈s.2.2,dM f=0/\∀b∈f.2.2,b.length=8/\Bytes b
def Tg(s:uL):List fF:=s.2.2.take (min s.2.2.length 4)
theorem PQ{s:uL}{pre rest:List fF}{x:fF}(h:Tg s=pre++x::rest):pre.length<min s.2.2.length 4/\s.2.2[pre.length]? =some x/\x∈s.2.2:=by
 have z:pre.length<min s.2.2.length 4:=by have:=congrArg List.length h;simp[Tg] at this;omega
 have u:(Tg s)[pre.length]? =some x:=by rw[h];simp
 unfold Tg at u;rw[List.getElem?_take,WJ z] at u;exact⟨z,u,aB7 u⟩
theorem MN(s:uL):(Tg s).length=min s.2.2.length 4:=by simp[Tg]
theorem AZ(s:uL)(h0:jG s=0)(hq:UN s):pB s=(By (Qp s) 0 [] (Tg s)).elim (some ([],some 1)) (fun acc=>some (acc,none))/\
  ∀acc,By (Qp s) 0 [] (Tg s)=some acc->acc.length=(Tg s).length/\∀x∈acc,x.length<=1000000:=by
 obtain⟨O,P,S,T⟩:=Kk h0;unfold pB;rw[ZL,WJ h0,cM];have F:Sw.sub s.2.2 (0:Int) (min (s.2.2.length:Int) (4:Int))=some (Tg s):=by
  unfold Sw.sub Tg;rw[WJ (by omega)];simp;omega
 rw[F];simp only[ZV,pF,cM];refine PO (l:=Tg s) (fun (i:Nat) (acc:List (List Int))=>((i:Int),acc)) (fun i acc=>acc.length=i/\∀x∈acc,x.length<=1000000) [] (Qp s) (.ret ([],some 1)) id (by rw[MN];unfold fJ;omega) ⟨rfl,fun x B=>by simp at B⟩ ?_ ?_
 ·intro u x C acc h D;obtain⟨U,V,A⟩:=PQ h;have G:cm .lss (u.length:Int) ((Tg s).length:Int)=true:=by rw[h];exact pK u x C
  have H:Sw.idx (Tg s) (u.length:Int)=some x:=by rw[h];exact mV u x C
  have I:ar .add .i64 s.2.1 (u.length:Int)=s.2.1+(u.length:Int):=ZN (by omega);simp only[G,H,I,XG,cM,cg,Qp];by_cases c:s.2.1+(u.length:Int)>2147483647
  ·simp[c]
  ·obtain⟨Q,E⟩:=E9 (i:=u.length) O P.1 (by omega) (hq x A).1 (hq x A).2;have B:=j8 (hq x A).1;have K:Sw.app ([s.1,s.2.1+(u.length:Int),x.1]:List Int) x.2.1=some ([s.1,s.2.1+(u.length:Int),x.1]++x.2.1):=VD _ _ (by simp;omega);have L:mS ((1:Int),[s.1,s.2.1+(u.length:Int),x.1]++x.2.1,x.2.2)=some (bQ (WH s u.length x),none):=Et E Q;have M:Sw.app acc [bQ (WH s u.length x)]=some (acc++[bQ (WH s u.length x)]):=VD _ _ (by simp;omega);simp only[c,A6,pF,ZW,K,L,M,cM,ZV];rw[o8 (by omega)];refine⟨rfl,fun R N=>?_⟩;cases N;refine⟨by simp[D.1],fun y z=>?_⟩;rcases K9.1 z with z | z
   ·exact D.2 y z
   ·simp at z;subst z;exact Ye E
 ·intro acc _;simp only[dR,pF];rfl
end Go.WM
namespace Go.WM
open Go.Pl
open Go Go.Sw Go.Mo
theorem Yg{l:List fF}(h:∀f∈l,dM f=0):uK l=none:=by
 unfold uK;rw[List.findSome?_eq_none_iff];intro f u;rw[WJ (h f u)]
variable {S M:Nat}
theorem o5{f:fF}:bQ f≠ []:=by unfold bQ body Hs;simp
theorem Nj{f:fF}:GN (bQ f)=some ():=by
 unfold GN;rw[WA];intro h;exact o5 (List.isEmpty_iff.1 h)
end Go.WM
namespace Go.kc
open Go.Pl
open Go Go.Sw Go.Mo
def Qq:Nat:=18446744073709551616
theorem Vk(n:Nat):IntKind.wrap .u64 (n:Int)=((n % Qq:Nat):Int):=by
 simp[IntKind.wrap,IntKind.signed,IntKind.bits,Qq]
theorem SD{a b:Nat}(ha:a<Qq)(hb:b<Qq):ar .xor .u64 (a:Int) (b:Int)=((a ^^^ b:Nat):Int):=by
 have h:a ^^^ b<2 ^ 64:=aCd (by simpa[Qq] using ha) (by simpa[Qq] using hb);show IntKind.wrap .u64 ((BitVec.ofInt 64 (a:Int) ^^^ BitVec.ofInt 64 (b:Int)).toNat:Int)=_;simp only[rZ,aEq,zg];rw[N2 (by simpa[Qq] using ha),N2 (by simpa[Qq] using hb),Vk,N2 (by simpa[Qq] using h)]
theorem TY{a b:Nat}:ar .mul .u64 (a:Int) (b:Int)=((a*b % Qq:Nat):Int):=by
 show IntKind.wrap .u64 ((a:Int)*(b:Int))=_;rw[show (a:Int)*(b:Int)=((a*b:Nat):Int) from by push_cast;rfl,Vk]
def OH:Nat:=1099511628211
def SE(h b:Nat):Nat:=(h ^^^ b)*OH % Qq
theorem IC(h b:Nat):SE h b<Qq:=lv _ (by decide)
def ID(l:List Int):Nat:=(nat l).foldl SE 14695981039346656037
theorem IE(l:List Nat)(h:Nat)(hh:h<Qq):l.foldl SE h<Qq:=by
 induction l generalizing h with
 |nil=>exact hh
 |cons x l u=>exact u _ (IC _ _)
theorem BA(l:List Int):ID l<Qq:=IE _ _ (by decide)
theorem Qr{A B:Type}(f:B->A->B):∀(l:List A) (i:Nat) (b:B),(l.zipIdx i).foldl (fun acc x=>f acc x.1) b=l.foldl f b
 | [],_,_=>rfl
 |x::l,i,b=>by simp only[aCk,R5];exact Qr f l (i+1) _
theorem Qs(l:List Int)(h:Bytes l)(hl:l.length<=1000000):qE l=some (ID l:Int):=by
 unfold qE;rw[show ((14695981039346656037:Int),(0:Int))=(fun (i:Nat) (r:Nat)=>((r:Int),(i:Int))) 0 14695981039346656037 from rfl];rw[B5 (l:=l) (fun (i:Nat) (r:Nat)=>((r:Int),(i:Int))) (fun _ r=>r<Qq) 14695981039346656037 (fun _ x r=>SE r x.toNat) (fun r=>(r:Int)) (by unfold fJ;omega) (by decide)]
 ·rw[Qr (fun r (x:Int)=>SE r x.toNat)];simp only[ID,nat,List.foldl_map]
 ·rintro z x C r rfl A;have B:=h x (by simp);obtain⟨b,rfl⟩:∃b:Nat,x=(b:Int):=⟨x.toNat,by omega⟩;have u:b<Qq:=by unfold Qq;omega
  refine⟨?_,IC _ _⟩;simp only[pK,XG,mV,cM,SD A u];rw[show (1099511628211:Int)=((OH:Nat):Int) from rfl,TY,GY (n:=z.length) (m:=1000000) (by simp at hl;omega) (by omega)];rfl
 ·intro acc _;simp only[dR,pF]
def Ww(h:Int):List Int:=(List.range 8).map fun j=>((h.toNat / 2 ^ (56 - 8*j) % 256:Nat):Int)
theorem DJ(h:Int):Bytes (Ww h):=by
 intro x u;simp only[Ww,bh] at u;obtain⟨j,_,rfl⟩:=u;have:=lv (h.toNat / 2 ^ (56 - 8*j)) (show 0<256 by decide);omega
theorem Lm(h:Int):(Ww h).length=8:=by simp[Ww]
def Qt(l:List Int):List Int:=1::l.flatMap Ww
theorem p8{A:Type}(f:A->List Int)(l:List A)(h:∀x∈l,Bytes (f x)):Bytes (l.flatMap f):=by
 intro y u;obtain⟨x,z,u⟩:=aD6.1 u;exact h x z y u
theorem Vl(l:List Int):Bytes (Qt l):=by
 intro y h;rcases m5.1 h with rfl | h
 ·decide
 ·exact p8 Ww l (fun x _=>DJ x) y h
theorem IF{A:Type}(f:A->List Int)(m:Nat)(l:List A)(h:∀x∈l,(f x).length=m):(l.flatMap f).length=l.length*m:=by
 induction l with
 |nil=>simp
 |cons x l z=>
  rw[aEn,sM,h x (by simp),z (fun y u=>h y (by simp[u])),D2,I6,po,aDf]
theorem DK(l:List Int):(Qt l).length=1+l.length*8:=by
 rw[Qt,D2,IF Ww 8 l (fun x _=>Lm x)];omega
def DL(l:List Int):Int:=(ID (Qt l):Int)
def og(l:List Int):Prop:=∀x∈l,0<=x/\x<18446744073709551616
theorem PR(l:List Int):0<=DL l/\DL l<18446744073709551616:=by
 have:=BA (Qt l);unfold DL;unfold Qq at this;omega
theorem aMl(n k:Nat)(hk:k<=64):sh .shr .u64 (n:Int) (k:Int)=((n / 2 ^ k:Nat):Int):=by
 show Int.fdiv _ _=_;have:min (k:Int).toNat (IntKind.bits .u64)=k:=by simp[IntKind.bits];omega
 rw[this];rw[vg _ (by exact aEc (aEx (by decide)))]
 norm_cast
theorem MO(l:List Int)(hu:og l)(hl:l.length<=1000):tV l=some (DL l):=by
 unfold tV;rw[show ((0:Int),([(1:Int)]:List Int))=(fun (i:Nat) (r:List Int)=>((i:Int),r)) 0 [1] from rfl];rw[B5 (l:=l) (fun (i:Nat) (r:List Int)=>((i:Int),r)) (fun i r=>r.length<=1+8*i) [1] (fun _ x r=>r++Ww x) (fun r=>r) (by unfold fJ;omega) (by simp)]
 ·rw[ZE Ww l 0 [1]];have: [1]++l.flatMap Ww=Qt l:=rfl;rw[this,Qs _ (Vl l) (by rw[DK];omega)];rfl
 ·rintro h x H r rfl I;have F:=hu x (by simp);obtain⟨b,rfl⟩:∃b:Nat,x=(b:Int):=⟨x.toNat,by omega⟩;have G:h.length<=1000:=by simp at hl;omega
  refine⟨?_,by simp[Lm];omega⟩;simp only[pK,XG,mV,cM];rw[show ((56:Int),r)=(fun i:Nat=>((56:Int) - 8*i,r++(Ww b).take i)) 0 from by simp];rw[Uj (fun i:Nat=>((56:Int) - 8*i,r++(Ww b).take i)) 8 (r++Ww b) (by unfold fJ;omega)]
  ·rw[GY (n:=h.length) (m:=1000000) (by omega) (by omega)]
  ·intro i E;have u:((56:Int) - 8*(i:Int))=((56 - 8*i:Nat):Int):=by omega
   have z:cm .geq ((56:Int) - 8*(i:Int)) 0=true:=by unfold cm;simp;omega
   have A:nn ((56:Int) - 8*(i:Int))=some ():=by unfold nn;rw[WJ (by omega)]
   have B:ar .sub .i64 ((56:Int) - 8*(i:Int)) 8=(56:Int) - 8*((i+1:Nat):Int):=by
    show IntKind.wrap .i64 _=_;rw[wrap_i64 (by omega)];push_cast;omega
   have C:IntKind.wrap .u8 (sh .shr .u64 (b:Int) ((56:Int) - 8*(i:Int)))=((b / 2 ^ (56 - 8*i) % 256:Nat):Int):=by
    rw[u,aMl _ _ (by omega)];simp[IntKind.wrap,IntKind.signed,IntKind.bits]
   have D:(Ww b).take (i+1)=(Ww b).take i++[((b / 2 ^ (56 - 8*i) % 256:Nat):Int)]:=by
    rw[List.take_add_one];congr 1;simp only[Ww];rw[ka,List.getElem?_range E];simp
   simp only[z,XG,A,cM,C];rw[VD _ _ (by simp[Lm];omega),cM,B,D,A8]
  ·have:cm .geq ((56:Int) - 8*((8:Nat):Int)) 0=false:=by decide
   simp only[this,pF];rw[aCa (by rw[Lm];omega)]
 ·intro acc _;simp only[dR,pF]
def Vm(l:List Int):List Int:=(Sw.chunks 4 l).map DL
theorem Yh{α:Type}{n:Nat}{xs c:List α}(h:c∈Sw.chunks n xs):∃k,c=(xs.drop (k*n)).take n:=by
 simp only[Sw.chunks,bh] at h;obtain⟨k,_,rfl⟩:=h;exact⟨k,rfl⟩
theorem og.sub{l c:List Int}(h:og l)(hs:∀x∈c,x∈l):og c:=fun x u=>h x (hs x u)
theorem BB{l c:List Int}(h:og l)(hc:c∈Sw.chunks 4 l):og c/\c.length<=4:=by
 obtain⟨k,rfl⟩:=Yh hc;exact⟨h.sub fun x u=>aDq (aCo u),by simp;omega⟩
theorem BC{ι α:Type}{f:ι->Option α}{g:ι->α}:∀(its:List ι) (acc:List α),(∀i∈its,f i=some (g i))->acc.length+its.length<=1000000->
  Z8 (δ:=Empty) (fun i acc=>(f i).bind fun v=>(Sw.app acc [v]).bind fun a=>some (.next a)) its acc=some (.WB (acc++its.map g))
 | [],acc,_,_=>by simp[Z8]
 |i::is,acc,h,u=>by
  simp only[Z8,h i (by simp),cM];rw[VD _ _ (by simp at u ⊢;omega)];simp only[cM];rw[BC is _ (fun j z=>h j (by simp[z])) (by simp at u ⊢;omega)];simp
theorem Fl{α:Type}(n:Nat)(xs:List α):(Sw.chunks n xs).length=(xs.length+n - 1) / n:=by simp[Sw.chunks]
theorem IG(l:List Int)(hu:og l)(hl:l.length<=1000):rX l=some (Vm l):=by
 unfold rX iJ;have u:cm .lss (4:Int) 1=false:=by decide
 have z:small l=some ():=by unfold small;rw[WJ (by omega)]
 have A:nx 4=some ():=by decide
 simp only[jp,u,pF,cM,z,A,rg];rw[show Int.toNat 4=4 from rfl];rw[BC (f:=tV) (g:=DL) _ _ (fun c h=>MO c (BB hu h).1 (by have:=(BB hu h).2;omega)) (by rw[Fl];simp;omega)];simp[Vm]
theorem SF{a b:Nat}:cm .lss (a:Int) (b:Int)=decide (a<b):=PE
theorem Sl(l:List Int):(Vm l).length=(l.length+3) / 4:=by simp[Vm,Fl]
theorem OI(l:List Int):og (Vm l):=by
 intro x h;simp only[Vm,bh] at h;obtain⟨c,_,rfl⟩:=h;exact PR c
def Yi:Nat->List Int->List (List Int)
 | 0,_=>[]
 |f+1,l=>if l.length<=1 then [] else Vm l::Yi f (Vm l)
theorem Sn{a b:Nat}:cm .gtr (a:Int) (b:Int)=decide (b<a):=by unfold cm;simp
theorem MP{ab:List Int->Option (List Int)}(hab:∀l,og l->l.length<=1000->ab l=some (Vm l)):
  ∀(n f:Nat) (l:List Int) (acc:List (List Int)),og l->l.length<=n->n<=1000->n<f->acc.length+n<=2000->
   loop (fun (s:List Int×List (List Int))=>bif (cm .gtr (s.1.length:Int) (1:Int)) then (ab s.1).bind fun v=>(Sw.app s.2 [v]).bind fun a=>some (.next (v,a)) else (some (.done (.WB s.2)):Option (Step (List Int×List (List Int)) (Ex (List (List Int)) (List (List Int)×Option Int))))) f (l,acc)=some (.WB (acc++Yi n l))/\
   loop (fun (s:List Int×List (List Int))=>bif (cm .gtr (s.1.length:Int) (1:Int)) then (ab s.1).bind fun v=>(Sw.app s.2 [v]).bind fun a=>some (.next (v,a)) else (some (.done (.WB s.2)):Option (Step (List Int×List (List Int)) (Ex (List (List Int)) (List (List Int)))))) f (l,acc)=some (.WB (acc++Yi n l)):=by
 intro n
 induction n with
 |zero=>
  intro f l acc _ u _ z _;obtain⟨f,rfl⟩:∃f',f=f'+1:=⟨f - 1,by omega⟩;have:cm .gtr (l.length:Int) 1=false:=by rw[show (1:Int)=((1:Nat):Int) from rfl,Sn];simp;omega
  simp[loop,this,Yi]
 |succ n D=>
  intro f l acc A u F z G;obtain⟨f,rfl⟩:∃f',f=f'+1:=⟨f - 1,by omega⟩;by_cases h:l.length<=1
  ·have:cm .gtr (l.length:Int) 1=false:=by rw[show (1:Int)=((1:Nat):Int) from rfl,Sn];simp;omega
   simp[loop,this,Yi,h]
  ·have:cm .gtr (l.length:Int) 1=true:=by rw[show (1:Int)=((1:Nat):Int) from rfl,Sn];simp;omega
   have E:=Sl l;obtain⟨B,C⟩:=D f (Vm l) (acc++[Vm l]) (OI l) (by omega) (by omega) (by omega) (by simp;omega);simp only[loop,this,XG,hab l A (by omega),cM,VD acc [Vm l] (by simp;omega),Yi,WA h];rw[B,C];simp
def leaf(b:aQ):Int:=(ID (0::b):Int)
def leaves(bs:List aQ):List Int:=bs.map leaf
theorem Vn(bs:List aQ):og (leaves bs):=by
 intro x h;simp only[leaves,bh] at h;obtain⟨b,_,rfl⟩:=h;have:=BA (0::b);unfold leaf;unfold Qq at this;omega
def tree(bs:List aQ):List (List Int):=leaves bs::Yi bs.length (leaves bs)
def TZ(bs:List aQ):Prop:=∀b∈bs,b.length=8/\Bytes b
theorem MQ{b:aQ}(h:b.length=8/\Bytes b):vY b=some (leaf b):=by
 unfold vY;rw[VD _ _ (by simp;omega),cM,Qs _ (by intro x u;simp at u;rcases u with rfl | u;decide;exact h.2 x u) (by simp;omega)];rfl
theorem foldl_map{A B:Type}(f:A->B):∀(l:List A) (i:Nat) (acc:List B),(l.zipIdx i).foldl (fun acc x=>acc++[f x.1]) acc=acc++l.map f
 | [],_,_=>by simp
 |x::l,i,acc=>by simp only[aCk,R5];rw[foldl_map f l];simp
theorem aMo(bs:List aQ)(hb:TZ bs)(hl:bs.length<=1000):zV bs=some (if bs.length<1\/bs.length>32 then ([],some 1) else (tree bs,none)):=by
 unfold zV;rw[show (1:Int)=((1:Nat):Int) from rfl,show (32:Int)=((32:Nat):Int) from rfl,SF,Sn];by_cases h:bs.length<1
 ·simp[h]
 ·by_cases u:bs.length>32
  ·have:(32<bs.length):=u;simp[h,this]
  ·have z:¬32<bs.length:=u;simp only[h,z,A6,pF,cM];rw[show ((0:Int),([]:List Int))=(fun (i:Nat) (r:List Int)=>((i:Int),r)) 0 [] from rfl];rw[B5 (l:=bs) (fun (i:Nat) (r:List Int)=>((i:Int),r)) (fun i r=>r.length=i) [] (fun _ x r=>r++[leaf x]) (fun r=>r) (by unfold fJ;omega) rfl]
   ·rw[foldl_map leaf bs 0 []];have A:=(MP (ab:=rX) IG bs.length fJ (leaves bs) [leaves bs] (Vn bs) (by simp[leaves]) (by omega) (by unfold fJ;omega) (by simp;omega)).1;rw[show []++bs.map leaf=leaves bs from rfl];have B:((1:Nat):Int)=1:=rfl;simp only[B];unfold lp;rw[A];simp[tree]
   ·rintro C x E r rfl D;refine⟨?_,by simp[D]⟩;simp only[pK,XG,mV,cM];rw[MQ (hb x (by simp)),cM,VD _ _ (by simp at hl ⊢;omega),cM,show ((1:Nat):Int)=1 from rfl,GY (n:=C.length) (m:=1000000) (by simp at hl;omega) (by omega)]
   ·intro acc _;simp only[dR,pF]
def Goes:List (List Int)->Prop
 | []=>False
 | [l]=>l.length=1
 |l::m::t=>1<l.length/\m=Vm l/\Goes (m::t)
theorem Vo:∀(n:Nat) (l:List Int),1<=l.length->l.length<=n->Goes (l::Yi n l)
 | 0,l,u,z=>by omega
 |n+1,l,u,z=>by
  simp only[Yi];by_cases h:l.length<=1
  ·simp[h,Goes];omega
  ·rw[WA h];have:=Sl l;exact⟨by omega,rfl,Vo n (Vm l) (by omega) (by omega)⟩
theorem BD:∀(n:Nat) (l:List Int),(Yi n l).length<=n
 | 0,l=>by simp[Yi]
 |n+1,l=>by
  simp only[Yi];split
  ·simp
  ·have:=BD n (Vm l);simp;omega
theorem Goes.at:∀{t:List (List Int)},Goes t->∀(pre rest:List (List Int)) (l:List Int),t=pre++l::rest->(rest=[]/\l.length=1)\/(∃m r,rest=m::r/\1<l.length/\m=Vm l)
 | [],h,_,_,_,_=>h.elim
 | [l0],h,pre,rest,l,e=>by
  cases pre with
  |nil=>simp at e;obtain⟨rfl,rfl⟩:=e;exact .inl ⟨rfl,h⟩
  |cons p pre=>simp at e
 |l0::m0::t,h,pre,rest,l,e=>by
  cases pre with
  |nil=>simp at e;obtain⟨rfl,rfl⟩:=e;exact .inr ⟨m0,t,rfl,h.1,h.2.1⟩
  |cons p pre=>simp at e;exact Goes.at h.2.2 pre rest l e.2
theorem Goes.ne{t:List (List Int)}(h:Goes t):t≠ []:=by rintro rfl;exact h
theorem OJ:∀(n:Nat) (l:List Int) (m:Nat),l.length<=m->∀x∈Yi n l,og x/\x.length<=m
 | 0,l,m,h,x,u=>by simp[Yi] at u
 |n+1,l,m,h,x,u=>by
  simp only[Yi] at u;split at u
  ·simp at u
  ·have z:=Sl l;rcases m5.1 u with rfl | u
   ·exact⟨OI l,by omega⟩
   ·exact OJ n (Vm l) m (by omega) x u
theorem qj(bs:List aQ)(h:bs.length<=32):∀l∈tree bs,og l/\l.length<=32:=by
 intro l u;rcases m5.1 u with rfl | u
 ·exact⟨Vn bs,by simp[leaves];omega⟩
 ·exact OJ bs.length (leaves bs) 32 (by simp[leaves];omega) l u
theorem qi(bs:List aQ):(tree bs).length<=bs.length+1:=by
 have:=BD bs.length (leaves bs);simp[tree];omega
theorem mh(bs:List aQ)(h:1<=bs.length):Goes (tree bs):=Vo _ _ (by simp[leaves];omega) (by simp[leaves])
end Go.kc
namespace Go.bCg
open Go.Pl
open Go Go.Sw Go.Mo
end Go.bCg
namespace Go.Mo
open Go Go.Sw
structure PS where
 n:Int
 fn:Int
 XV:Int
 WS:Int
 blocks:(List aQ)
 VL:(Int×(List (Int×aQ))×(List (Int×(List (Int×aQ))))×Bool)
 WD:(List (Int×(List aQ)))
 VA:Int
 VC:(Int×Int×(List (Int×(List Int)×(List aQ))))
 sent:Int
 safe:Int
 VI:(List Int)
 on:Int
 XU:Int
 VW:Int
 first:Int
 receiver:(Int×Int)
 VZ:(List (Bool×Bool×(List Int)))
 p7:Int
 fd:((List aQ)×(List (Int×aQ))×Int)
 m8:Int
 od:((List aQ)×(List (Int×aQ))×Int)
def lH(a1:Int)(a2:aQ)(s:PS):Option ((Option Int)×PS):=(eT a1 a2 s.n s.fn s.XV s.WS s.blocks s.VL s.WD s.VA s.VC s.sent s.safe s.VI s.on s.XU s.VW s.first s.receiver s.VZ s.p7 s.fd s.m8 s.od).bind fun v=>some (v.1,{ s with blocks:=v.2.1,VL:=v.2.2 })
def oG(a1:Int)(s:PS):Option (aQ×(Option Int)×PS):=(fU a1 s.n s.fn s.XV s.WS s.blocks s.VL s.WD s.VA s.VC s.sent s.safe s.VI s.on s.XU s.VW s.first s.receiver s.VZ s.p7 s.fd s.m8 s.od).bind fun v=>some (v.1,v.2,s)
def qQ(s:PS):Option ((Option Int)×PS):=(fP s.n s.fn s.XV s.WS s.blocks s.VL s.WD s.VA s.VC s.sent s.safe s.VI s.on s.XU s.VW s.first s.receiver s.VZ s.p7 s.fd s.m8 s.od).bind fun v=>some (v.1,{ s with XV:=v.2.1,VL:=v.2.2.1,WD:=v.2.2.2.1,p7:=v.2.2.2.2.1,fd:=v.2.2.2.2.2 })
def lX(s:PS):Option ((Option Int)×PS):=(eF s.n s.fn s.XV s.WS s.blocks s.VL s.WD s.VA s.VC s.sent s.safe s.VI s.on s.XU s.VW s.first s.receiver s.VZ s.p7 s.fd s.m8 s.od).bind fun v=>some (v.1,{ s with VC:=v.2.1,sent:=v.2.2.1,VI:=v.2.2.2.1,VZ:=v.2.2.2.2 })
def jK(a1:Int)(s:PS):Option (Int×Bool×PS):=(cE a1 s.n s.fn s.XV s.WS s.blocks s.VL s.WD s.VA s.VC s.sent s.safe s.VI s.on s.XU s.VW s.first s.receiver s.VZ s.p7 s.fd s.m8 s.od).bind fun v=>some (v.1,v.2,s)
def sA(a1:(Int×(List Int)×(List aQ)))(s:PS):Option ((Option Int)×PS):=(fC a1 s.n s.fn s.XV s.WS s.blocks s.VL s.WD s.VA s.VC s.sent s.safe s.VI s.on s.XU s.VW s.first s.receiver s.VZ s.p7 s.fd s.m8 s.od).bind fun v=>some (v.1,{ s with XU:=v.2.1,m8:=v.2.2.1,od:=v.2.2.2 })
def eB(a1:(List Int))(s:PS):Option ((Option Int)×PS):=(cO a1 s.n s.fn s.XV s.WS s.blocks s.VL s.WD s.VA s.VC s.sent s.safe s.VI s.on s.XU s.VW s.first s.receiver s.VZ s.p7 s.fd s.m8 s.od).bind fun v=>some (v.1,{ s with XU:=v.2.1,first:=v.2.2.1,receiver:=v.2.2.2.1,VZ:=v.2.2.2.2.1,m8:=v.2.2.2.2.2.1,od:=v.2.2.2.2.2.2 })
def eU(a1:(List Int))(s:PS):Option ((Option Int)×PS):=(cS a1 s.n s.fn s.XV s.WS s.blocks s.VL s.WD s.VA s.VC s.sent s.safe s.VI s.on s.XU s.VW s.first s.receiver s.VZ s.p7 s.fd s.m8 s.od).bind fun v=>some (v.1,{ s with VL:=v.2.1,VA:=v.2.2.1,VC:=v.2.2.2.1,sent:=v.2.2.2.2.1,safe:=v.2.2.2.2.2.1,VI:=v.2.2.2.2.2.2 })
def uM(a1:(Bool×Bool×(List Int)))(s:PS):Option ((Option Int)×PS):=(fV a1 s.n s.fn s.XV s.WS s.blocks s.VL s.WD s.VA s.VC s.sent s.safe s.VI s.on s.XU s.VW s.first s.receiver s.VZ s.p7 s.fd s.m8 s.od).bind fun v=>some (v.1,{ s with VL:=v.2.1,VA:=v.2.2.1,VC:=v.2.2.2.1,sent:=v.2.2.2.2.1,safe:=v.2.2.2.2.2.1,VI:=v.2.2.2.2.2.2.1,XU:=v.2.2.2.2.2.2.2.1,first:=v.2.2.2.2.2.2.2.2.1,receiver:=v.2.2.2.2.2.2.2.2.2.1,VZ:=v.2.2.2.2.2.2.2.2.2.2.1,m8:=v.2.2.2.2.2.2.2.2.2.2.2.1,od:=v.2.2.2.2.2.2.2.2.2.2.2.2 })
def mX(a1:Int)(s:PS):Option ((Option Int)×PS):=(eX a1 s.n s.fn s.XV s.WS s.blocks s.VL s.WD s.VA s.VC s.sent s.safe s.VI s.on s.XU s.VW s.first s.receiver s.VZ s.p7 s.fd s.m8 s.od).bind fun v=>some (v.1,{ s with VL:=v.2.1,VA:=v.2.2.1,VC:=v.2.2.2.1,sent:=v.2.2.2.2.1,safe:=v.2.2.2.2.2.1,VI:=v.2.2.2.2.2.2.1,XU:=v.2.2.2.2.2.2.2.1,first:=v.2.2.2.2.2.2.2.2.1,receiver:=v.2.2.2.2.2.2.2.2.2.1,VZ:=v.2.2.2.2.2.2.2.2.2.2.1,m8:=v.2.2.2.2.2.2.2.2.2.2.2.1,od:=v.2.2.2.2.2.2.2.2.2.2.2.2 })
def rF(a1:Int)(s:PS):Option ((Option Int)×PS):=(fW a1 s.n s.fn s.XV s.WS s.blocks s.VL s.WD s.VA s.VC s.sent s.safe s.VI s.on s.XU s.VW s.first s.receiver s.VZ s.p7 s.fd s.m8 s.od).bind fun v=>some (v.1,{ s with VZ:=v.2 })
def lJ(a1:Int)(s:PS):Option ((Option Int)×PS):=(eH a1 s.n s.fn s.XV s.WS s.blocks s.VL s.WD s.VA s.VC s.sent s.safe s.VI s.on s.XU s.VW s.first s.receiver s.VZ s.p7 s.fd s.m8 s.od).bind fun v=>some (v.1,{ s with VZ:=v.2 })
def lK(a1:(Int×Int×Int×aQ))(s:PS):Option ((Option Int)×PS):=(eI a1 s.n s.fn s.XV s.WS s.blocks s.VL s.WD s.VA s.VC s.sent s.safe s.VI s.on s.XU s.VW s.first s.receiver s.VZ s.p7 s.fd s.m8 s.od).bind fun v=>some (v.1,{ s with VZ:=v.2 })
def uN(a1:(Int×aQ×Int×Int×Int×(List aQ)))(s:PS):Option ((Int×aQ×Int×Int×Int×(List aQ))×(Option Int)×PS):=(fX a1 s.n s.fn s.XV s.WS s.blocks s.VL s.WD s.VA s.VC s.sent s.safe s.VI s.on s.XU s.VW s.first s.receiver s.VZ s.p7 s.fd s.m8 s.od).bind fun v=>some (v.1,v.2,s)
def mY(a1:(Int×Int×Int×aQ))(s:PS):Option ((Int×aQ×Int×Int×Int×(List aQ))×(Option Int)×PS):=(hO a1 s.n s.fn s.XV s.WS s.blocks s.VL s.WD s.VA s.VC s.sent s.safe s.VI s.on s.XU s.VW s.first s.receiver s.VZ s.p7 s.fd s.m8 s.od).bind fun v=>some (v.1,v.2.1,{ s with n:=v.2.2.1,fn:=v.2.2.2.1,XV:=v.2.2.2.2.1,WS:=v.2.2.2.2.2.1,blocks:=v.2.2.2.2.2.2.1,VL:=v.2.2.2.2.2.2.2.1,WD:=v.2.2.2.2.2.2.2.2.1,VA:=v.2.2.2.2.2.2.2.2.2.1,VC:=v.2.2.2.2.2.2.2.2.2.2.1,sent:=v.2.2.2.2.2.2.2.2.2.2.2.1,safe:=v.2.2.2.2.2.2.2.2.2.2.2.2.1,VI:=v.2.2.2.2.2.2.2.2.2.2.2.2.2.1,on:=v.2.2.2.2.2.2.2.2.2.2.2.2.2.2.1,XU:=v.2.2.2.2.2.2.2.2.2.2.2.2.2.2.2.1,VW:=v.2.2.2.2.2.2.2.2.2.2.2.2.2.2.2.2.1,first:=v.2.2.2.2.2.2.2.2.2.2.2.2.2.2.2.2.2.1,receiver:=v.2.2.2.2.2.2.2.2.2.2.2.2.2.2.2.2.2.2.1,VZ:=v.2.2.2.2.2.2.2.2.2.2.2.2.2.2.2.2.2.2.2.1,p7:=v.2.2.2.2.2.2.2.2.2.2.2.2.2.2.2.2.2.2.2.2.1,fd:=v.2.2.2.2.2.2.2.2.2.2.2.2.2.2.2.2.2.2.2.2.2.1,m8:=v.2.2.2.2.2.2.2.2.2.2.2.2.2.2.2.2.2.2.2.2.2.2.1,od:=v.2.2.2.2.2.2.2.2.2.2.2.2.2.2.2.2.2.2.2.2.2.2.2 })
end Go.Mo
namespace Go.WM
open Go Go.Sw Go.Mo Go.Pl
theorem Yj{a b c:Nat}(h:a ^^^ c=b ^^^ c):a=b:=by
 have:=congrArg (·^^^ c) h;simpa[Nat.xor_assoc] using this
theorem PU{a b c:Nat}(h:c ^^^ a=c ^^^ b):a=b:=by
 rw[Nat.xor_comm c a,Nat.xor_comm c b] at h;exact Yj h
theorem IH{a b:Nat}(ha:a<4294967296)(hb:b<4294967296)(h:Yd a=Yd b):a=b:=by
 have top:∀x:Nat,x<2147483648->2147483648<=x ^^^ Sh:=by
  intro x B;have z:(x ^^^ Sh) / 2 ^ 31 % 2=(x / 2 ^ 31+Sh / 2 ^ 31) % 2:=LP x Sh 31;have u:x / 2 ^ 31=0:=Nat.div_eq_of_lt (by simpa using B);have A:Sh / 2 ^ 31=1:=by decide
  rw[u,A] at z;omega
 unfold Yd at h;by_cases z:a % 2=1
 ·by_cases u:b % 2=1
  ·rw[WJ z,WJ u] at h;have:=Yj h;omega
  ·rw[WJ z,WA u] at h;have:=top (a / 2) (by omega);omega
 ·by_cases u:b % 2=1
  ·rw[WA z,WJ u] at h;have:=top (b / 2) (by omega);omega
  ·rw[WA z,WA u] at h;omega
theorem Nk:∀(n:Nat) {a b:Nat},a<4294967296->b<4294967296->Ow n a=Ow n b->a=b
 | 0,_,_,_,_,h=>h
 |n+1,_,_,u,z,h=>Nk n u z (IH (Ll u) (Ll z) h)
theorem TD{r b:Nat}(hr:r<4294967296)(hb:b<256):r ^^^ b<4294967296:=by
 have:r ^^^ b<2 ^ 32:=aCd (by simpa using hr) (by omega);simpa using this
theorem DM{r r' b:Nat}(hr:r<4294967296)(iq:r'<4294967296)(hb:b<256)(h:zZ r b=zZ r' b):r=r':=
 Yj (Nk 8 (TD hr hb) (TD iq hb) h)
theorem DN{r b b':Nat}(hr:r<4294967296)(hb:b<256)(XS:b'<256)(h:zZ r b=zZ r b'):b=b':=
 PU (Nk 8 (TD hr hb) (TD hr XS) h)
theorem Vp:∀(l:List Nat) {r r':Nat},r<4294967296->r'<4294967296->(∀b∈l,b<256)->l.foldl zZ r=l.foldl zZ r'->r=r'
 | [],_,_,_,_,_,h=>h
 |b::l,_,_,z,A,u,h=>DM z A (u b (by simp)) (Vp l (Bp z (u b (by simp))) (Bp A (u b (by simp))) (fun c B=>u c (by simp[B])) h)
theorem MR{l:List Nat}{k v:Nat}(hl:∀b∈l,b<256)(hk:k<l.length)(hv:v<256)(YS:l[k]≠v):Aa (l.set k v)≠Aa l:=by
 intro h;have C:l=l.take k++l[k]::l.drop (k+1):=by rw[<-aCy hk,X2]
 have D:l.set k v=l.take k++v::l.drop (k+1):=by rw[aDv,WJ hk]
 unfold Aa at h;rw[D] at h;have A:(l.take k++v::l.drop (k+1)).foldl zZ 4294967295=(l.take k++l[k]::l.drop (k+1)).foldl zZ 4294967295:=by rw[<-C];exact h
 rw[aC4,aC4,R5,R5] at A;have u:=Hq (l.take k) 4294967295 (by decide) (fun b z=>hl b (aCo z));have B:l[k]<256:=hl _ (ei hk);have E:=Vp (l.drop (k+1)) (Bp u hv) (Bp u B) (fun b z=>hl b (aDq z)) A;exact YS (DN u hv B E).symm
theorem II{a b:Nat}(ha:a<4294967296)(hb:b<4294967296)(h:u1 a=u1 b):a=b:=by
 simp only[u1,aEw,and_true] at h;omega
theorem BE{l:List Int}(h:Bytes l):Aa (nat l)<4294967296:=Hq _ _ (by decide) (Hr h)
theorem F1{f:fF}(g:Good f){k:Nat}{v:Int}(hk:k<(bQ f).length)(hv:0<=v/\v<=255)(YS:(bQ f)[k]≠v)(hb:Bytes ((bQ f).set k v)):eZ ((bQ f).set k v)=none:=by
 cases hf:eZ ((bQ f).set k v) with
 |none=>rfl
 |some x=>
  exfalso;obtain⟨N,_,h⟩:=Gj hb hf;have E:(body x).length=(body f).length:=by
   have:=congrArg List.length h;simp[bQ,u1] at this;omega
  have A:=(rE g).1;have H:=(rE N).1;have O:=BE A;have P:=BE H;by_cases u:k<(body f).length
  ·have e:(bQ f).set k v=(body f).set k v++u1 (4294967295 - Aa (nat (body f))):=by unfold bQ;rw[List.set_append_left _ _ u]
   rw[e] at h;unfold bQ at h;obtain⟨D,z⟩:=List.append_inj h (by simp[E]);have Q:=II (by omega) (by omega) z;have B:Aa (nat (body x))=Aa (nat (body f)):=by omega
   rw[D] at B;have I:nat ((body f).set k v)=(nat (body f)).set k v.toNat:=by unfold nat;rw[List.map_set]
   rw[I] at B;have K:k<(nat (body f)).length:=by simpa[nat] using u
   refine MR (Hr A) K (by omega) ?_ B;intro M;have L:(nat (body f))[k]=((body f)[k]).toNat:=by simp[nat]
   have C:(bQ f)[k]=(body f)[k]:=by simp only[bQ];rw[aC6 u]
   have:=A _ (ei u);rw[L] at M;rw[C] at YS;omega
  ·have e:(bQ f).set k v=body f++(u1 (4294967295 - Aa (nat (body f)))).set (k - (body f).length) v:=by unfold bQ;rw[List.set_append_right _ _ (by omega)]
   rw[e] at h;unfold bQ at h;obtain⟨D,z⟩:=List.append_inj h E;rw[D] at z;have F:k - (body f).length<(u1 (4294967295 - Aa (nat (body f)))).length:=by
    have:(bQ f).length=(body f).length+(u1 (4294967295 - Aa (nat (body f)))).length:=by simp[bQ]
    omega
   have C:(bQ f)[k]=(u1 (4294967295 - Aa (nat (body f))))[k - (body f).length]:=by simp only[bQ];rw[List.getElem_append_right (by omega)]
   have G:(u1 (4294967295 - Aa (nat (body f))))[k - (body f).length]? =some v:=by rw[z,aBz F]
   rw[D3 F,A7] at G;exact YS (by rw[C,G])
theorem aUq{a b:Int}(ha:0<=a/\a<=255)(hb:0<=b/\b<=255):ar .xor .u8 a b=((a.toNat ^^^ b.toNat:Nat):Int):=by
 have u:((a.toNat:Nat):Int)=a:=by omega
 have z:((b.toNat:Nat):Int)=b:=by omega
 have h:a.toNat ^^^ b.toNat<2 ^ 8:=aCd (by omega) (by omega);show IntKind.wrap .u8 ((BitVec.ofInt 8 a ^^^ BitVec.ofInt 8 b).toNat:Int)=_;rw[<-u,<-z];simp only[rZ,aEq,zg,m6];rw[N2 (a:=a.toNat) (by omega),N2 (a:=b.toNat) (by omega),AW (by omega)]
end Go.WM
namespace Go.WM
open Go Go.Sw Go.Mo Go.Pl
def Gk(s:uL):Option fF->uL
 |none=>s
 |some f=>if f.1=0/\f.2.2=[]/\f.2.1.length=2/\f.2.1.getD 0 0=s.1/\s.2.1<f.2.1.getD 1 0/\f.2.1.getD 1 0 - s.2.1<=min (s.2.2.length:Int) 4 then (s.1,f.2.1.getD 1 0,s.2.2.drop (f.2.1.getD 1 0 - s.2.1).toNat) else s
theorem Ac(s:uL)(b:List Int)(hb:Bytes b)(hl:b.length<=2000)(h0:jG s=0):rY s b=some (Gk s (eZ b),none):=by
 obtain⟨X,q2,S,T⟩:=Kk h0;unfold rY;rw[ZL,WJ h0,cM,Vi _ S T,qF b hb (by omega)];simp only[ZV,pF,cM];cases hf:eZ b with
 |none=>simp[Gk]
 |some f=>
  obtain⟨g,_,_⟩:=Gj hb hf;simp only[ZV,pF,cn,cg,Gk];by_cases u:¬(f.1=0)
  ·simp[u]
  have u:=aC5.1 u;by_cases z:¬((f.2.1.length:Int)=2)
  ·have F:f.2.1.length≠2:=fun h=>z (by omega);simp[u,z,F]
  have z:=aC5.1 z;by_cases U:(f.2.2.length:Int)>0
  ·have C:f.2.2≠ []:=ue.1 (by omega);have G:0<f.2.2.length:=by omega
   simp[u,z,G,C]
  have C:f.2.2=[]:=fy (by omega);obtain⟨n0,n1,E⟩:∃n0 n1,f.2.1=[n0,n1]:=by
   match hm:f.2.1,z with
   | [a,c],_=>exact⟨a,c,rfl⟩
   | [],c=>simp at c
   | [_],c=>simp at c
   |_::_::_::_,c=>simp at c;omega
  have H:Sw.idx [n0,n1] (0:Int)=some n0:=by simp[Sw.idx]
  have I:Sw.idx [n0,n1] (1:Int)=some n1:=by simp[Sw.idx]
  have V:0<=n1/\n1<=2147483647:=g.num n1 (by rw[E];simp);have K:((2:Nat):Int)=2:=rfl;have L:(([]:List aQ).length:Int)=0:=rfl;have M:([n0,n1]:List Int).getD 0 0=n0:=rfl;have N:([n0,n1]:List Int).getD 1 0=n1:=rfl;have O:([n0,n1]:List Int).length=2:=rfl;simp only[u,C,E,H,I,K,L,M,N,O,ne_eq,aEz,A6,pF,cM,aEy];rw[show decide ((0:Int)>0)=false from rfl];simp only[pF,cM];by_cases A:¬(n0=s.1)
  ·simp[A]
  have A:=aC5.1 A;have P:ar .sub .i64 n1 s.2.1=n1 - s.2.1:=L5 (by omega);simp only[A,aEz,A6,pF,P,yp,jp,aEy];by_cases B:s.2.1<n1/\n1 - s.2.1<=min (s.2.2.length:Int) 4
  ·have Q:n1 - s.2.1=((n1 - s.2.1).toNat:Int):=by omega
   rw[C9 (show n1 - s.2.1>0 by omega),XG,C9 B.2,cM,XG,WJ B];rw[Q,J3 _ _ (by omega),cM,m6]
  ·have R:(bif decide (n1 - s.2.1>0) then some (decide (n1 - s.2.1<=min (s.2.2.length:Int) 4)) else some false)=some false:=by
    by_cases D:n1 - s.2.1>0
    ·rw[C9 D,c8 (fun h=>B ⟨by omega,h⟩)];rfl
    ·rw[c8 D];rfl
   rw[R,cM,pF,WA B]
def Ht(r:Int×Int):Option fF->(Int×Int)×fF×Bool×(Bool×List Int)
 |none=>(r,(0,[],[]),false,(true,[]))
 |some f=>if f.1=1/\3<=f.2.1.length/\f.2.1.getD 0 0=r.1/\f.2.1.getD 2 0<=15 then
   (if f.2.1.getD 1 0=r.2/\r.2<2147483647 then ((r.1,r.2+1),(f.2.1.getD 2 0,f.2.1.drop 3,f.2.2),true,(false,bQ ((0:Int),[r.1,r.2+1],([]:List aQ))))
   else (r,(0,[],[]),false,(false,bQ ((0:Int),[r.1,r.2],([]:List aQ)))))
  else (r,(0,[],[]),false,(true,[]))
theorem Nl(r:Int×Int)(b:List Int)(hb:Bytes b)(hl:b.length<=2000)(h1:0<=r.1/\r.1<=2147483647)(h2:0<=r.2/\r.2<=2147483647):
  nZ r b=some ((Ht r (eZ b)).1,(Ht r (eZ b)).2.1,(Ht r (eZ b)).2.2.1,(Ht r (eZ b)).2.2.2,none):=by
 unfold nZ;rw[j6,l4.2 h1,l4.2 h2,qF b hb (by omega)];simp only[Bool.or_self,ve,lx,pF,cM];cases hf:eZ b with
 |none=>simp[Ht]
 |some f=>
  obtain⟨g,_,_⟩:=Gj hb hf;simp only[ZV,pF,cn,cg,cl,Ht];by_cases u:¬(f.1=1)
  ·simp[u]
  have u:=aC5.1 u;by_cases A:(f.2.1.length:Int)<3
  ·have G:¬3<=f.2.1.length:=by omega
   simp[u,A,G]
  obtain⟨n0,n1,n2,ns,F⟩:∃n0 n1 n2 ns,f.2.1=n0::n1::n2::ns:=by
   match hm:f.2.1,A with
   |a::c::d::e,_=>exact⟨a,c,d,e,rfl⟩
   | [],c=>simp at c
   | [_],c=>simp at c
   | [_,_],c=>simp at c
  have H:Sw.idx (n0::n1::n2::ns) (0:Int)=some n0:=by simp[Sw.idx]
  have I:Sw.idx (n0::n1::n2::ns) (1:Int)=some n1:=by simp[Sw.idx]
  have K:Sw.idx (n0::n1::n2::ns) (2:Int)=some n2:=by simp[Sw.idx]
  have L:Sw.sub (n0::n1::n2::ns) (3:Int) ((n0::n1::n2::ns).length:Int)=some ns:=J3 (n0::n1::n2::ns) 3 (by simp);have M:(n0::n1::n2::ns).getD 0 0=n0:=rfl;have N:(n0::n1::n2::ns).getD 1 0=n1:=rfl;have O:(n0::n1::n2::ns).getD 2 0=n2:=rfl;have P:(n0::n1::n2::ns).drop 3=ns:=rfl;have Q:3<=(n0::n1::n2::ns).length:=by simp
  rw[F] at A;simp only[u,A,F,H,I,K,L,M,N,O,P,Q,ne_eq,aEz,A6,pF,cM,aEy];by_cases z:¬(n0=r.1)
  ·simp[z]
  have z:=aC5.1 z;by_cases E:n2>15
  ·have:¬n2<=15:=by omega
   simp[z,E,this]
  have R:n2<=15:=by omega
  simp only[z,E,R,aEz,A6,pF,cM,ce,jp,aEy,ZU];by_cases B:n1=r.2/\r.2<2147483647
  ·have S:ar .add .i64 r.2 1=r.2+1:=ZN (by omega);obtain⟨e,D⟩:=Vj h1 (c:=r.2+1) (by omega);simp only[B.1,B.2,cz,XG,cM,S,Et D e,Nj,and_self,ZU]
  ·obtain⟨e,D⟩:=Vj h1 h2;have T:(bif decide (n1=r.2) then some (decide (r.2<2147483647)) else some false)=some false:=by
    by_cases C:n1=r.2
    ·have:¬r.2<2147483647:=fun h=>B ⟨C,h⟩;simp[C,this]
    ·simp[C]
   rw[T,WA B];simp only[pF,cM,Et D e,Nj]
theorem Jf{S q:Int}(h0:jG (S,q,[])=0):pB (S,q,[])=some ([],none):=by
 have h:Tg (S,q,[])=[]:=by simp[Tg]
 have:=(AZ (S,q,[]) h0 (fun f u=>by simp at u)).1;rw[this,h];rfl
theorem Nn{S q:Int}{m:fF}(h0:jG (S,q,[m])=0)(hq:q<=2147483647)(hm:dM m=0)(hb:∀b∈m.2.2,b.length=8/\Bytes b):
  pB (S,q,[m])=some ([bQ (WH (S,q,[m]) 0 m)],none):=by
 have u:Tg (S,q,[m])=[m]:=by simp[Tg]
 have:=(AZ (S,q,[m]) h0 (fun f h=>by simp at h;subst h;exact⟨hm,hb⟩)).1;rw[this,u];have z:Qp (S,q,[m]) 0 m []=some [bQ (WH (S,q,[m]) 0 m)]:=by
  unfold Qp;rw[WA (by simp;omega)];rfl
 simp[By,z]
theorem mZ{S q:Int}{l:List fF}(hS:0<=S/\S<=2147483647)(hq:0<=q/\q<=2147483647)(hl:l.length<=64)(h:∀f∈l,dM f=0):jG (S,q,l)=0:=by
 unfold jG;rw[l4.2 hS,l4.2 hq];simp only[Bool.or_self,O2,ZW];rw[WA (by omega),Yg h];rfl
theorem Jg{S q:Int}{m:fF}(hS:0<=S/\S<=2147483647)(hq:0<=q/\q<2147483647)(hm:dM m=0):uH (S,q,[]) m=some ((S,q,[m]),none):=by
 have z:jG (S,q,[])=0:=mZ hS ⟨hq.1,by omega⟩ (by simp) (fun f h=>by simp at h);unfold uH;rw[ZL,WJ z,cM];simp only[ZV,pF];rw[AY,WJ hm,cM];have A:ar .add .i64 q (([]:List fF).length:Int)=q:=by rw[ZN (by simp;omega)];simp
 have u:=Vh hm;have B:mT m=some m:=by
  unfold mT lD aP;rw[VD _ _ (by have:=u.1;simp;omega),VD _ _ (by have:=u.2;simp;omega)];rfl
 simp only[ZV,pF,A,ce,I2];rw[show decide ((([]:List fF).length:Int)=64)=false from rfl,c8 (show¬(q>=2147483647) by omega)];simp only[pF,cM];rw[Vi [] (by simp) (fun f h=>by simp at h)];simp only[cM,B,Sw.app,T6,D2,Y7];rfl
end Go.WM
namespace Go.WU
open Go Go.Sw Go.Mo Go.Pl Go.YL
variable {d:lW}{blocks:List aQ}{a b n:Nat}
theorem MS(h:oD d blocks a b)(h0:1<=blocks.length)(h1:blocks.length<=32)(ha:a<=2147483647)(hb:b+1<=2147483647):
  ∃d',cW (blocks.length:Int) d [] (a:Int) (ar .add .i64 (b:Int) (1:Int))=some (none,(blocks.length:Int),d')/\oD d' blocks a (b+1):=by
 rw[o8 (by omega)];have A:Uo blocks.length [] (a:Int) ((b+1:Nat):Int)=0:=by
  unfold Uo;rw[WA (by simp),WA (by omega)];rfl
 obtain⟨d',x',y',u,z,_,_,_,e,s⟩:=yS h h0 h1 [] _ _ A;have u:a=x':=by omega
 have z:b+1=y':=by omega
 subst u z;exact⟨d',e,s⟩
theorem Vq(h:oD d blocks a b)(h0:1<=blocks.length)(h1:blocks.length<=32)(ha:a<=2147483647)(hb:b+1<=2147483647):∃d',oD d' blocks a (b+1)/\
  (∀b0 b1 b2 b3 b4 b5 b6 b7 b8 b9 WN WL WT WI WQ WK WO WG,jA b0 b1 b2 b3 b4 b5 b6 b7 b8 b9 WN WL WT WI WQ WK WO WG (blocks.length:Int) d=some (none,(a:Int),((b+1:Nat):Int),(blocks.length:Int),d'))/\
  (∀b0 b1 b2 b3 b4 b5 b6 b7 b8 b9 WN WL WT WI WQ WK WO WG XD XC,gD b0 b1 b2 b3 b4 b5 b6 b7 b8 b9 WN WL WT WI WQ WK WO WG XD XC (blocks.length:Int) d=some (none,(a:Int),((b+1:Nat):Int),(blocks.length:Int),d'))/\
  (∀b0 b1 b2 b3 b4 b5 b6 b7 b8 b9 WN WL WT WI WQ WK WO WG XD XC,iT b0 b1 b2 b3 b4 b5 b6 b7 b8 b9 WN WL WT WI WQ WK WO WG XD XC (blocks.length:Int) d=some (none,(a:Int),((b+1:Nat):Int),(blocks.length:Int),d')):=by
 obtain⟨d',e,s⟩:=MS h h0 h1 ha hb;have z:=Xz h ha (by omega);have u:ar .add .i64 (b:Int) (1:Int)=((b+1:Nat):Int):=o8 (by omega);rw[u] at e;refine⟨d',s,?_,?_,?_⟩<;>intros
 ·unfold jA;rw[z,cM];simp only[ZV,pF,u,e,cM]
 ·unfold gD;rw[z,cM];simp only[ZV,pF,u,e,cM]
 ·unfold iT;rw[z,cM];simp only[ZV,pF,u,e,cM]
theorem Vr(h:oD d blocks a b)(h0:1<=blocks.length)(h1:blocks.length<=32):iA (blocks.length:Int) d (blocks.length:Int)=some (some ((blocks.length:Int),d),none,(blocks.length:Int),d):=by
 unfold iA;rw[LZ h,cM,Qf h h0 h1];rfl
theorem IJ(h0:1<=n)(h1:n<=32):iY (n:Int)=some (some ((n:Int),fresh n),none):=by
 unfold iY;rw[CZ h0 h1,cM];have:=Qf (Mz h1) (by simpa using h0) (by simpa using h1);simp only[oc] at this;simp only[ZV,pF,this,cM];rfl
def pN(WD:List (Int×List aQ))(num:Int)(blocks:List aQ):List (Int×List aQ):=Gb ((Gz WD num blocks).getD []) (num - 5)
theorem Kl(WD:List (Int×List aQ))(num:Nat)(hl:blocks.length<=1000)(hn:num<=2147483647)(hp:(Gz WD (num:Int) blocks).isSome=true):
  (∀b0 b1 b3 b5 b7 b8 b9 WN WL WT WI WQ WK WO WG XD XC,fL b0 b1 (num:Int) b3 blocks b5 WD b7 b8 b9 WN WL WT WI WQ WK WO WG XD XC=some (pN WD num blocks))/\
  (∀b0 b1 b3 b5 b7 b8 b9 WN WL WT WI WQ WK WO WG XD XC XB XA,eG b0 b1 (num:Int) b3 blocks b5 WD b7 b8 b9 WN WL WT WI WQ WK WO WG XD XC XB XA=some (pN WD num blocks)):=by
 obtain⟨q,B⟩:=Option.isSome_iff_exists.1 hp;have h:ar .sub .i64 (num:Int) 4=(num:Int) - 4:=L5 (by omega);have u:ar .sub .i64 ((num:Int) - 4) 1=(num:Int) - 4 - 1:=L5 (by omega);have z:(num:Int) - 4 - 1=(num:Int) - 5:=by omega
 have A:aP blocks=some blocks:=by
  unfold aP;rw[VD _ _ (by simp;omega)];rfl
 refine⟨?_,?_⟩<;>intros
 ·unfold fL pN;rw[A,cM,B,cM,h,u,z];rfl
 ·unfold eG pN;rw[A,cM,B,cM,h,u,z];rfl
end Go.WU
namespace Go.WU
open Go Go.Sw Go.Mo Go.Pl Go.YL
variable {d:lW}{blocks:List aQ}{a b n:Nat}
theorem Dj(num:Nat)(blocks:List aQ):pN [] num blocks=[((num:Int),blocks)]:=by
 unfold pN Gz fK Gb;simp only[yy,Y7,E5,aD0,kp];rw[WA (by omega)];rfl
theorem Hu(h:oD d blocks a b)(h0:1<=blocks.length)(h1:blocks.length<=32)(ha:a<=2147483647)(hb:b+1<=2147483647):∃d',oD d' blocks a (b+1)/\
  (∀b1 b2 b3 b4 b5 b6 b7 b8 b9 WN WL WT WI WQ WK WO WG,fB (blocks.length:Int) b1 b2 b3 b4 b5 b6 b7 b8 b9 WN WL WT WI WQ WK WO WG (blocks.length:Int) d=
   some (none,(blocks.length:Int),(a:Int),((b+1:Nat):Int),blocks,((a:Int),[],[],true),[((a:Int),blocks)],-1,(0,0,[]),0,0,[],(blocks.length:Int),d'))/\
  (∀b1 b2 b3 b4 b5 b6 b7 b8 b9 WN WL WT WI WQ WK WO WG XD XC XB XA,fZ (blocks.length:Int) b1 b2 b3 b4 b5 b6 b7 b8 b9 WN WL WT WI WQ WK WO WG XD XC XB XA (blocks.length:Int) d=
   some (none,(blocks.length:Int),(a:Int),((b+1:Nat):Int),blocks,((a:Int),[],[],true),[((a:Int),blocks)],-1,(0,0,[]),0,0,[],(blocks.length:Int),d')):=by
 obtain⟨d',s,A,_,B⟩:=Vq h h0 h1 ha hb;have u:=xP s;have z:(Gz ([]:List (Int×List aQ)) (a:Int) blocks).isSome=true:=rfl;obtain⟨C,D⟩:=Kl (blocks:=blocks) [] a (by omega) ha z;refine⟨d',s,?_,?_⟩<;>intros
 ·unfold fB;rw[A,cM];simp only[ZV,pF];rw[u,cM];simp only[];rw[C,cM,Dj]
 ·unfold fZ;rw[B,cM];simp only[ZV,pF];rw[u,cM];simp only[];rw[D,cM,Dj]
theorem Hv(h:oD d blocks a b)(h0:1<=blocks.length)(h1:blocks.length<=32)(ha:a<=2147483647)(hb:b+1<=2147483647):∃d',oD d' blocks a (b+1)/\
  (∀b1 b2 b3 b4 b5 b6 b7 b8 b9 WN WL WT WI WQ WK WO WG XD XC,gK (blocks.length:Int) b1 b2 b3 b4 b5 b6 b7 b8 b9 WN WL WT WI WQ WK WO WG XD XC (blocks.length:Int) d=
   some (none,(blocks.length:Int),(a:Int),((b+1:Nat):Int),-1,(0,0),(blocks.length:Int),d'))/\
  (∀b1 b2 b3 b4 b5 b6 b7 b8 b9 WN WL WT WI WQ WK WO WG XD XC XB XA,gA (blocks.length:Int) b1 b2 b3 b4 b5 b6 b7 b8 b9 WN WL WT WI WQ WK WO WG XD XC XB XA (blocks.length:Int) d=
   some (none,(blocks.length:Int),(a:Int),((b+1:Nat):Int),-1,(0,0),(blocks.length:Int),d')):=by
 obtain⟨d',s,_,u,_⟩:=Vq h h0 h1 ha hb;refine⟨d',s,?_,?_⟩<;>intros
 ·unfold gK;rw[u,cM]
 ·unfold gA;rw[u,cM]
def WC(s:PS):=(s.n,s.fn,s.XV,s.WS,s.blocks,s.VL,s.WD,s.VA,s.VC,s.sent,s.safe,s.VI,s.on,s.XU,s.VW,s.first,s.receiver,s.VZ,s.p7,s.fd,s.m8,s.od)
theorem IK(h0:1<=n)(h1:n<=32):∃d1 d2,oD d1 (List.replicate n aS) 0 1/\oD d2 (List.replicate n aS) 0 1/\
  iG (n:Int)=some (some (WC { n:=n,fn:=n,XV:=0,WS:=1,blocks:=List.replicate n aS,VL:=(0,[],[],true),WD:=[(0,List.replicate n aS)],VA:= -1,VC:=(0,0,[]),sent:=0,safe:=0,VI:=[],on:=n,XU:=0,VW:=1,first:= -1,receiver:=(0,0),VZ:=[],p7:=n,fd:=d1,m8:=n,od:=d2 }),none):=by
 have u:=Mz (n:=n) h1;have h:(List.replicate n aS).length=n:=oc;obtain⟨d1,s1,z,_⟩:=Hu u (by rw[h];exact h0) (by rw[h];exact h1) (by decide) (by decide);obtain⟨d2,B,A,_⟩:=Hv u (by rw[h];exact h0) (by rw[h];exact h1) (by decide) (by decide);rw[h] at z A;refine⟨d1,d2,s1,B,?_⟩;unfold iG;rw[IJ h0 h1,cM];simp only[vU,ZV,pF,cM];rw[z,cM];simp only[ZV,pF];rw[A,cM];rfl
end Go.WU
namespace Go.WU
open Go Go.Sw Go.Mo Go.Pl Go.l5
structure kd (m:Nat) (b:Bd) (now:List aQ) (snaps:List (List aQ)):Prop where
 may:uI b (m:Int)=0
 num:(snaps.length:Int)=b.1+1
 U8:now.length=m
 len:∀s∈snaps,s.length=m
 open_:Lk (snaps.getD b.1.toNat []) b.2.1=now
 chain:AR snaps b.2.2.1
variable {m:Nat}{b:Bd}{now:List aQ}{snaps:List (List aQ)}
theorem kd.add(h:kd m b now snaps){p:pL}(hp:0<=p.1/\p.1<m):kd m (b.1,P0 b.2.1 p,b.2.2.1,b.2.2.2) (now.set p.1.toNat p.2) snaps:=by
 obtain⟨E,F,G,H,I,z,K,L,M⟩:=ZZ h.may;have B:=YP m b.2.1 _ z;have C:=YP m (P0 b.2.1 p) _ (Uq hp z);refine⟨MD h.may hp,h.num,by rw[aCr];exact h.U8,h.len,?_,h.chain⟩;have D:Lk (snaps.getD b.1.toNat []) (P0 b.2.1 p)=Lk (snaps.getD b.1.toNat []) (b.2.1++[p]):=
  Qi (fun q u=>by have:=C q u;omega) (fun q u=>by
   rcases K9.1 u with u | u
   ·have:=B q u;omega
   ·simp at u;subst u;exact hp.1) fun i=>DF z i
 show Lk (snaps.getD b.1.toNat []) (P0 b.2.1 p)=_;rw[D];have A:=h.open_;unfold Lk at A ⊢;rw[aC4,A];rfl
theorem IL{n base:Int}:∀(l:List Ep) (j:Int),Gf n base j l=true->∀e∈l,e.1<=base+j+l.length - 1
 | [],_,_,e,h=>by simp at h
 |x::l,j,u,e,h=>by
  simp only[Gf] at u;split at u
  ·rename_i z;rcases m5.1 h with rfl | h
   ·simp only[D2];omega
   ·have:=IL l (j+1) u e h;simp only[D2];omega
  ·cases u
theorem kd.shut(h:kd m b now snaps)(hi:b.1<2147483647):kd m (Bx b) now (snaps++[now]):=by
 obtain⟨I,K,L,M,N,O,P,Q,E⟩:=ZZ h.may;have H:=h.num;have A:(Bx b).1=b.1+1:=by unfold Bx;split;rfl;split<;>rfl
 have C:(Bx b).2.1=[]:=by unfold Bx;split;rfl;split<;>rfl
 have D:∀e∈b.2.2.1,e.1<=b.1:=fun e u=>by have:=IL _ _ E e u;omega
 have B:AR (snaps++[now]) b.2.2.1:=fun e u=>by
  obtain⟨F,G⟩:=h.chain e u;have:=D e u;exact⟨F,by rw[uJ (by omega),uJ (by omega)];exact G⟩
 refine⟨HL h.may hi,by rw[A];simp;omega,h.U8,fun s z=>?_,?_,?_⟩
 ·rcases K9.1 z with z | z
  ·exact h.len s z
  ·simp at z;subst z;exact h.U8
 ·rw[C,A,Es (by omega)];rfl
 ·unfold Bx;split
  ·exact B
  ·split
   ·intro e u;simp at u
   ·intro e u;rcases K9.1 u with u | u
    ·exact B e u
    ·simp only[zf] at u;subst u;refine⟨by simp only;omega,?_⟩;simp only;rw[show b.1+1 - 1=b.1 by omega,uJ (by omega),Es (by omega)];exact h.open_
theorem kd.drop(h:kd m b now snaps){num:Int}(hn:0<=num/\num<=b.1):pI b (m:Int) num=some ((b.1,b.2.1,b.2.2.1.filter (fun e=>decide (num<e.1)),if num=b.1 then false else b.2.2.2),none)/\
  kd m (b.1,b.2.1,b.2.2.1.filter (fun e=>decide (num<e.1)),if num=b.1 then false else b.2.2.2) now snaps:=
 ⟨ME h.may hn,HK h.may hn,h.num,h.U8,h.len,h.open_,fun e u=>h.chain e (yw.1 u).1⟩
theorem Vs(hm:1<=m/\m<=32){num:Nat}(hn:snaps.length=num+1)(hb:num<=2147483647)(hl:∀s∈snaps,s.length=m):kd m ((num:Int),[],[],true) (snaps.getD num []) snaps:=by
 refine⟨Er (by omega) (by simp;omega) (by simp) rfl (by simp) (by simp) rfl,by simp;omega,?_,hl,rfl,fun e h=>by simp at h⟩;rw[O4,D3 (by omega)];exact hl _ (ei _)
theorem No{n:Int}:∀(A:List (Option pL)) (j:Nat),(∀(i:Nat) (p:pL),A[i]? =some (some p)->p.1=((j+i:Nat):Int)/\p.1<n)->∀prev:Int,prev<(j:Int)->Go.ZO.j1 n prev (A.filterMap id)=true
 | [],_,_,_,_=>rfl
 |none::A,j,h,prev,B=>by
  simp only[List.filterMap_cons,id];exact No A (j+1) (fun i p u=>by have:=h (i+1) p (by simpa using u);refine⟨?_,this.2⟩;rw[this.1];congr 1;omega) prev (by omega)
 |some q::A,j,h,prev,B=>by
  have z:=h 0 q rfl;simp only[List.filterMap_cons,id,Go.ZO.j1,D1,pq];refine⟨by unfold Go.ZO.N1;simp;omega,?_⟩;exact No A (j+1) (fun i p u=>by have:=h (i+1) p (by simpa using u);refine⟨?_,this.2⟩;rw[this.1];congr 1;omega) q.1 (by rw[z.1];omega)
theorem kd.since(h:kd m b now snaps){k:Int}(hk:0<=k/\k<=b.1):nE b (m:Int) k=some ((0,[]),false,none)\/
  ∃ps,nE b (m:Int) k=some ((b.1,ps),true,none)/\Lk (snaps.getD k.toNat []) ps=snaps.getD b.1.toNat []/\Go.ZO.j1 (m:Int) (-1) ps=true/\ps.length<=32:=by
 obtain⟨E,F,G,H,I,K,L,M,A⟩:=ZZ h.may;rw[fa b m k (ao h.may),WA (by rw[h.may];simp),WA (by omega)];by_cases c:b.1 - k>b.2.2.1.length
 ·rw[WJ c];exact .inl rfl
 ·rw[WA c];refine .inr ⟨_,rfl,?_⟩;have u:=Ut (k:=k) (snaps:=snaps) (by omega:(m:Int)<=32) (by omega:b.1 - b.2.2.1.length+1 - 1<=k) (by omega) b.2.2.1 A h.chain;have B:max k (b.1 - b.2.2.1.length+1+b.2.2.1.length - 1)=b.1:=by omega
  rw[B] at u;refine⟨u.1,?_,?_⟩
  ·refine No _ 0 (fun i p z=>?_) (-1) (by omega);have C:=u.2 i p z;have D:=Yc (n:=(m:Int)) (Lj A) z;exact⟨by simpa using C,D.2⟩
  ·refine db (List.length_filterMap_le _ _) ?_;rw[Bo];simp
end Go.WU
namespace Go.WU
open Go Go.Sw Go.Mo Go.Pl
open Go.YL (CW CX orI orP)
abbrev g9:=Int×Int×Int×aQ
abbrev Fm:=Int×List Int×List aQ
theorem SG{a b:Nat}(ha:a<4611686018427387904)(hb:b<4611686018427387904):ar .and .i64 (a:Int) (b:Int)=((a &&& b:Nat):Int):=by
 have h:a &&& b<2 ^ 62:=Nat.lt_of_le_of_lt Nat.and_le_left (by simpa using ha);show IntKind.wrap .i64 ((BitVec.ofInt 64 (a:Int) &&& BitVec.ofInt 64 (b:Int)).toNat:Int)=_;simp only[rZ,aEr,zg];rw[N2 (a:=a) (by omega),N2 (a:=b) (by omega)];exact wrap_i64 (by omega)
theorem MT{at_ k fr:Nat}(h1:at_<32)(h2:k<4)(h3:fr<64):ar .or .i64 (ar .or .i64 (sh .shl .i64 (at_:Int) (8:Int)) (sh .shl .i64 (k:Int) (6:Int))) (fr:Int)=((at_*256+k*64+fr:Nat):Int):=by
 have h:sh .shl .i64 (at_:Int) (8:Int)=((at_*2 ^ 8:Nat):Int):=CX (c:=8) (by omega) (by omega);have u:sh .shl .i64 (k:Int) (6:Int)=((k*2 ^ 6:Nat):Int):=CX (c:=6) (by omega) (by omega);rw[h,u,orI (by omega) (by omega),orP (by omega),orI (by omega) (by omega)];have z:at_*2 ^ 8+k*2 ^ 6=(at_*4+k)*2 ^ 6:=by omega
 rw[z,orP (by omega)]
theorem PV{at_ k fr:Nat}(h1:at_<32)(h2:k<4)(h3:fr<64):sh .shr .i64 ((at_*256+k*64+fr:Nat):Int) (8:Int)=(at_:Int)/\
  ar .and .i64 (sh .shr .i64 ((at_*256+k*64+fr:Nat):Int) (6:Int)) (3:Int)=(k:Int)/\ar .and .i64 ((at_*256+k*64+fr:Nat):Int) (63:Int)=(fr:Int):=by
 have h:sh .shr .i64 ((at_*256+k*64+fr:Nat):Int) (8:Int)=(((at_*256+k*64+fr) / 2 ^ 8:Nat):Int):=CW _ 8 (by omega);have u:sh .shr .i64 ((at_*256+k*64+fr:Nat):Int) (6:Int)=(((at_*256+k*64+fr) / 2 ^ 6:Nat):Int):=CW _ 6 (by omega);have z:ar .and .i64 (((at_*256+k*64+fr) / 2 ^ 6:Nat):Int) (3:Int)=((((at_*256+k*64+fr) / 2 ^ 6) &&& 3:Nat):Int):=SG (b:=3) (by omega) (by omega);have A:ar .and .i64 ((at_*256+k*64+fr:Nat):Int) (63:Int)=(((at_*256+k*64+fr) &&& 63:Nat):Int):=SG (b:=63) (by omega) (by omega);rw[h,u,z,A];have B:∀x:Nat,x &&& 3=x % 4:=fun x=>aDd x 2;have C:∀x:Nat,x &&& 63=x % 64:=fun x=>aDd x 6;rw[B,C];refine⟨?_,?_,?_⟩<;>congr 1<;>omega
def pO(q:g9):Int:=q.1*256+q.2.1*64+q.2.2.1
def tW(l:List g9):List aQ:=(l.filter fun q=>decide (q.2.1=3)).map fun q=>q.2.2.2
structure bm (q:g9):Prop where
 a:0<=q.1/\q.1<32
 k:0<=q.2.1/\q.2.1<=3
 f:0<=q.2.2.1/\q.2.2.1<64
 z:q.2.1≠3->q.2.2.2=aS
def rG(l:List g9)(jq to:Int):Fm:=((4:Int),[jq,to]++l.map pO,tW l)
theorem IM{q:g9}(h:bm q):ar .or .i64 (ar .or .i64 (sh .shl .i64 q.1 (8:Int)) (sh .shl .i64 q.2.1 (6:Int))) q.2.2.1=pO q:=by
 obtain⟨a,u⟩:∃a:Nat,q.1=a:=⟨q.1.toNat,by have:=h.a;omega⟩;obtain⟨k,z⟩:∃a:Nat,q.2.1=a:=⟨q.2.1.toNat,by have:=h.k;omega⟩;obtain⟨f,A⟩:∃a:Nat,q.2.2.1=a:=⟨q.2.2.1.toNat,by have:=h.f;omega⟩;have B:=h.a;have C:=h.k;have D:=h.f;unfold pO;rw[u,z,A,MT (by omega) (by omega) (by omega)];omega
theorem MU{q:g9}(h:bm q):sh .shr .i64 (pO q) (8:Int)=q.1/\ar .and .i64 (sh .shr .i64 (pO q) (6:Int)) (3:Int)=q.2.1/\ar .and .i64 (pO q) (63:Int)=q.2.2.1:=by
 obtain⟨a,u⟩:∃a:Nat,q.1=a:=⟨q.1.toNat,by have:=h.a;omega⟩;obtain⟨k,z⟩:∃a:Nat,q.2.1=a:=⟨q.2.1.toNat,by have:=h.k;omega⟩;obtain⟨f,A⟩:∃a:Nat,q.2.2.1=a:=⟨q.2.2.1.toNat,by have:=h.f;omega⟩;have B:=h.a;have C:=h.k;have D:=h.f;have:=PV (at_:=a) (k:=k) (fr:=f) (by omega) (by omega) (by omega);unfold pO;rw[u,z,A];have e:(a:Int)*256+(k:Int)*64+(f:Int)=((a*256+k*64+f:Nat):Int):=by omega
 rw[e];exact this
theorem Hw(l:List g9)(x:g9):tW (l++[x])=tW l++(if x.2.1=3 then [x.2.2.2] else []):=by
 unfold tW;rw[zh,aCq];by_cases h:x.2.1=3<;>simp[h]
theorem Vt(l:List g9):(tW l).length<=l.length:=by unfold tW;rw[jx];exact aCx _ _
theorem IN(num jq:Int)(ps:List (Int×aQ))(base:List aQ)(hp:ps.length<=32)(he:Go.ZO.YH base []=0)(hr:Go.ZO.j1 (base.length:Int) (-1) ps=true)(hk:∀q∈Go.ZO.ZA ps base [],bm q):
  rC (num,ps) base jq=some (rG (Go.ZO.ZA ps base []) jq num,decide (((2+(Go.ZO.ZA ps base []).length:Nat):Int)<=9)):=by
 unfold rC;rw[Go.ZO.ib ps base [] (by omega) (by simp),WA (by rw[he];simp),WJ hr,cM];simp only[ZV,pF];have A:(Go.ZO.ZA ps base []).length<=32:=db (Go.ZO.U7 _ _ _) hp;generalize hL:Go.ZO.ZA ps base []=L at hk A;rw[show ((0:Int),([jq,num]:List Int),([]:List aQ))=(fun (i:Nat) (acc:List Int×List aQ)=>((i:Int),acc.1,acc.2)) 0 ([jq,num],[]) from rfl];refine Df (l:=L) (fun (i:Nat) (acc:List Int×List aQ)=>((i:Int),acc.1,acc.2)) (fun h acc=>acc=([jq,num]++h.map pO,tW h)) (fun acc=>(acc.1,acc.2)) ([jq,num],[]) (by unfold fJ;omega) rfl ?_ ?_ ?_
 ·rintro h x E acc z rfl;have C:h.length<=32:=by rw[z] at A;simp at A;omega
  have B:=hk x (by rw[z];simp);have D:=Vt h;refine⟨([jq,num]++(h++[x]).map pO,tW (h++[x])),?_,rfl⟩;simp only[kJ z,XG,jY z,cM,IM B];rw[VD _ _ (by simp;omega),cM,o8 (by omega),ce,Hw];by_cases u:x.2.1=3
  ·rw[C9 u,XG,VD _ _ (by simp;omega),cM,WJ u];simp
  ·rw[c8 u,pF,WA u];simp
 ·rintro acc rfl;simp only[dR,pF]
 ·rintro acc rfl;simp only[rG,yp];have e:(([jq,num]++L.map pO).length:Int)=((2+L.length:Nat):Int):=by rw[sM,jx];rfl
  rw[e]
end Go.WU
namespace Go.WU
open Go Go.Sw Go.Mo Go.Pl
theorem Yk(l:List g9)(jq to:Int)(hl:l.length<=32)(hk:∀q∈l,bm q):oA (rG l jq to)=some (l,true):=by
 unfold oA rG;have I:Sw.sub ([jq,to]++l.map pO) (2:Int) ((([jq,to]++l.map pO).length:Nat):Int)=some (l.map pO):=by
  have:=Go.WM.J3 ([jq,to]++l.map pO) 2 (by simp);simpa using this
 rw[I,cM];have K:(l.map pO).length=l.length:=jx ..;rw[show (tW l,(0:Int),([]:List g9))=(fun (i:Nat) (acc:List aQ×List g9)=>(acc.1,(i:Int),acc.2)) 0 (tW l,[]) from rfl];refine Df (l:=l) (fun (i:Nat) (acc:List aQ×List g9)=>(acc.1,(i:Int),acc.2)) (fun F acc=>acc.2=F/\tW F++acc.1=tW l) (fun acc=>(acc.1,acc.2)) (tW l,[]) (by unfold fJ;omega) ⟨rfl,rfl⟩ ?_ ?_ ?_
 ·rintro F x u ⟨G,out⟩ C ⟨B,h⟩;simp only at B h;subst B;have U:out.length<=32:=by rw[C] at hl;simp at hl;omega
  have H:=hk x (by rw[C];simp);obtain⟨R,S,T⟩:=MU H;have L:Sw.idx (l.map pO) (out.length:Int)=some (pO x):=qO (by rw[C];simp);have D:cm .lss (out.length:Int) ((l.map pO).length:Int)=true:=by rw[K];exact kJ C
  simp only[D,XG,L,cM,R,S,T,jp,ce];have E:tW l=tW out++((if x.2.1=3 then [x.2.2.2] else [])++tW u):=by
   rw[C,show out++x::u=(out++[x])++u by simp];have:∀a b:List g9,tW (a++b)=tW a++tW b:=fun a b=>by unfold tW;rw[zh,aCq]
   rw[this,Hw,A8]
  rw[E] at h;have h:=List.append_cancel_left h;by_cases A:x.2.1=3
  ·rw[WJ A] at h;subst h;rw[C9 A,XG];have M:decide (((([x.2.2.2]++tW u).length:Nat):Int)=0)=false:=c8 (by simp;omega);have N:Sw.sub ([x.2.2.2]++tW u) (1:Int) ((([x.2.2.2]++tW u).length:Nat):Int)=some (tW u):=by
    have:=Go.WM.J3 ([x.2.2.2]++tW u) 1 (by simp);simpa using this
   have O:Sw.idx ([x.2.2.2]++tW u) (0:Int)=some x.2.2.2:=by simp[Sw.idx]
   rw[M,pF,O,cM,N,cM,VD _ _ (by simp;omega),cM,o8 (by omega)];refine⟨(tW u,out++[x]),rfl,rfl,?_⟩;simp only;rw[Hw,WJ A,E,WJ A,A8]
  ·rw[WA A,Y7] at h;subst h;rw[c8 A,pF,VD _ _ (by simp;omega),cM,o8 (by omega)];have P:=H.z A;refine⟨(tW u,out++[x]),?_,rfl,?_⟩
   ·rw[<-P]
   ·simp only;rw[Hw,WA A,X1,E,WA A,Y7]
 ·rintro⟨G,out⟩ ⟨B,h⟩;simp only at B h;subst B;have D:cm .lss (out.length:Int) ((out.map pO).length:Int)=false:=by rw[jx];exact dR
  simp only[D,pF]
 ·rintro⟨G,out⟩ ⟨B,h⟩;simp only at B h;subst B;have Q:G=[]:=by
   have:=congrArg List.length h;simp at this;exact this
  subst Q;rfl
end Go.WU
namespace Go.WU
open Go Go.Sw Go.Mo Go.Pl
open Go.YL (oD sJ Uo pW xP yS)
open Go.WM (dM)
def YY(b:aQ):Prop:=b.length=8/\Bytes b
structure q8 (n:Nat) (snaps:List (List aQ)) (cur to:Int) (m:Fm):Prop where
 lt:cur<to
 nn:0<=cur
 le:to<snaps.length
 load:dM m=0
 YN:∀b∈m.2.2,YY b
 say:m=((5:Int),[to],snaps.getD to.toNat [])\/∃l ps,m=rG l cur to/\l.length<=7/\(∀q∈l,bm q)/\pH l (snaps.getD cur.toNat []) []=some (ps,[],none)/\
  sJ (snaps.getD cur.toNat []) ps=snaps.getD to.toNat []/\ps.length<=n/\(∀p∈ps,0<=p.1/\p.1<(n:Int))
def nA:Nat->List aQ->List (Int×aQ)
 |_,[]=>[]
 |i,b::l=>((i:Int),b)::nA (i+1) l
theorem Hx:∀(l:List aQ) (i:Nat) (b:aQ),nA i (l++[b])=nA i l++[(((i+l.length:Nat):Int),b)]
 | [],_,_=>rfl
 |x::l,i,b=>by
  simp only[ek,nA,D2];rw[Hx l (i+1) b];congr 4;omega
theorem Dk:∀(l:List aQ) (i:Nat),(nA i l).length=l.length
 | [],_=>rfl
 |_::l,i=>by simp[nA,Dk l (i+1)]
theorem Km:∀(l:List aQ) (i:Nat),∀p∈nA i l,(i:Int)<=p.1/\p.1<((i+l.length:Nat):Int)
 | [],_,p,h=>by simp[nA] at h
 |x::l,i,p,h=>by
  simp only[nA,m5] at h;rcases h with rfl | h
  ·simp only[D2];omega
  ·have:=Km l (i+1) p h;simp only[D2];omega
theorem Np:∀(l pre base:List aQ),base.length=l.length->sJ (pre++base) (nA pre.length l)=pre++l
 | [],pre,base,h=>by
  have:base=[]:=fy (by simpa using h);subst this;rfl
 |x::l,pre,base,h=>by
  match base,h with
  |y::base,h=>
   simp only[nA];show sJ ((pre++y::base).set ((pre.length:Int)).toNat x) (nA (pre.length+1) l)=_;have:(pre++y::base).set ((pre.length:Int)).toNat x=(pre++[x])++base:=by simp
   rw[this];have:=Np l (pre++[x]) base (by simpa using h);simp only[sM,D2,T6] at this;rw[this];simp
variable {n:Nat}{snaps:List (List aQ)}
theorem Nq{d:(List aQ)×(List (Int×aQ))×Int}{blocks:List aQ}{a b:Nat}(h:oD d blocks a b)(h0:1<=blocks.length)(h1:blocks.length<=32)(P8:b<=2147483647)(XT:List (Int×aQ))(to:Int)(ht:0<=to/\to<=2147483647)
  (hl:XT.length<=blocks.length) (hp:∀p∈XT,0<=p.1/\p.1<(blocks.length:Int)):
  ∃d',oD d' (sJ blocks XT) to.toNat b/\
   (∀b0 b1 b2 b4 b5 b6 b7 b8 b9 WN WL WT WI WQ WK WO WG XB XA,jQ XT to b0 b1 b2 (b:Int) b4 b5 b6 b7 b8 b9 WN WL WT WI WQ WK WO WG (blocks.length:Int) d XB XA=some (none,to,(blocks.length:Int),d'))/\
   (∀b0 b1 b2 b3 b4 b5 b6 b7 b8 b9 WN WL WT WI WK WO WG XD XC,gR XT to b0 b1 b2 b3 b4 b5 b6 b7 b8 b9 WN WL WT WI (b:Int) WK WO WG XD XC (blocks.length:Int) d=some (none,to,(blocks.length:Int),d')):=by
 have B:Uo blocks.length XT to (b:Int)=0:=by
  unfold Uo;rw[WA (by omega),WA (by omega),WA];intro C;obtain⟨p,D,A⟩:=aDc.1 C;have:=hp p D;unfold pW at A;simp at A;omega
 obtain⟨d',x',y',u,z,_,_,_,e,E⟩:=yS h h0 h1 XT to (b:Int) B;have u:to.toNat=x':=by omega
 have z:b=y':=by omega
 subst u z;refine⟨d',E,?_,?_⟩<;>intros
 ·unfold jQ;rw[e];rfl
 ·unfold gR;rw[e];rfl
end Go.WU
namespace Go.WU
open Go Go.Sw Go.Mo Go.Pl
open Go.YL (oD sJ Uo pW xP yS)
open Go.WM (dM)
variable {n:Nat}{snaps:List (List aQ)}
theorem So{γ:Type}(l:List aQ)(hl:l.length<=1000)(k:List (Int×aQ)->Option γ):
  lp (β:=(List (Int×aQ))) (fun (D6:Int×(List (Int×aQ)))=>
    bif (cm .lss D6.1 (l.length:Int)) then
     (Sw.idx l D6.1).bind fun z26=>
      (Sw.app D6.2 ([(D6.1,z26)]:(List (Int×aQ)))).bind fun ZR=>
       some (.next ((ar .add .i64 D6.1 (1:Int)),ZR))
    else
     some (.done (.WB D6.2))
    ) ((0:Int),([]:(List (Int×aQ)))) k=k (nA 0 l):=by
 rw[show ((0:Int),([]:List (Int×aQ)))=(fun (i:Nat) (acc:List (Int×aQ))=>((i:Int),acc)) 0 [] from rfl];refine Df (l:=l) (fun (i:Nat) (acc:List (Int×aQ))=>((i:Int),acc)) (fun h acc=>acc=nA 0 h) (fun acc=>acc) [] (by unfold fJ;omega) rfl ?_ ?_ ?_
 ·rintro h x A acc u rfl;have z:h.length<=1000:=by rw[u] at hl;simp at hl;omega
  refine⟨nA 0 (h++[x]),?_,rfl⟩;simp only[kJ u,XG,jY u,cM];rw[VD _ _ (by simp[Dk];omega),cM,o8 (by omega),Hx,za]
 ·rintro acc rfl;simp only[dR,pF]
 ·rintro acc rfl;rfl
theorem MV{s:PS}{blocks:List aQ}{a b:Nat}(h:oD s.od blocks a b)(P9:blocks=snaps.getD a [])(h0:1<=n)(h1:n<=32)(eg:∀x∈snaps,x.length=n)(ha:s.XU=(a:Int))(W6:a<snaps.length)(ZF:snaps.length<=2147483647)(hb:s.VW=(b:Int))(P8:b<=2147483647)
  (hon:s.on=(n:Int)) (ho:s.m8=(n:Int)) {m:Fm} {to:Int} (hm:q8 n snaps (a:Int) to m):
  ∃d',oD d' (snaps.getD to.toNat []) to.toNat b/\sA m s=some (none,{ s with XU:=to,m8:=(n:Int),od:=d' }):=by
 have S:=hm.lt;have T:=hm.le;have E:∀i:Nat,i<snaps.length->(snaps.getD i []).length=n:=fun i O=>by
  rw[O4,D3 O];exact eg _ (ei _)
 have A:blocks.length=n:=by rw[P9];exact E a W6
 have F:(snaps.getD to.toNat []).length=n:=E _ (by omega);rcases hm.say with rfl |⟨l,P,rfl,U,Q,D,z,V,R⟩
 ·
  obtain⟨d',u,_,e⟩:=Nq h (by omega) (by omega) P8 (nA 0 (snaps.getD to.toNat [])) to (by omega) (by rw[Dk];omega) (fun p C=>by have:=Km _ _ p C;omega);rw[A] at e;have z:sJ blocks (nA 0 (snaps.getD to.toNat []))=snaps.getD to.toNat []:=by
   have:=Np (snaps.getD to.toNat []) [] blocks (by omega);simpa using this
  rw[z] at u;refine⟨d',u,?_⟩;unfold sA fC;have B:Sw.idx [to] (0:Int)=some to:=by simp[Sw.idx]
  have I:((([to]:List Int).length:Nat):Int)=1:=rfl;simp only[ce,I,hon,F,B,cg,cz,XG,cM];rw[ha,C9 (show to>(a:Int) by omega),XG];have G:=So (snaps.getD to.toNat []) (by omega) (γ:=(Option Int)×Int×Int×((List aQ)×(List (Int×aQ))×Int));rw[F] at G;rw[G];simp only[cM,hb,ho,e]
 ·
  obtain⟨d',u,_,e⟩:=Nq h (by omega) (by omega) P8 P to (by omega) (by omega) (fun p C=>by have:=R p C;omega);rw[A] at e;rw[m6] at D z;rw[P9,z] at u;refine⟨d',u,?_⟩;have H:=xP h;rw[A] at H;unfold sA fC;have K:=Yk l (a:Int) to (by omega) Q;have B:Sw.idx ((rG l (a:Int) to).2.1) (0:Int)=some (a:Int):=by simp[rG,Sw.idx]
  have L:Sw.idx ((rG l (a:Int) to).2.1) (1:Int)=some to:=by simp[rG,Sw.idx]
  have M:(rG l (a:Int) to).1=4:=rfl;have N:decide ((((rG l (a:Int) to).2.1.length:Nat):Int)>=2)=true:=C9 (by simp[rG];omega);rw[<-P9] at D;simp only[ce,M,I2,N,B,L,cg,XG,cM];rw[show decide ((4:Int)=5)=false from rfl,pF,cM,pF,C9 trivial,XG,ha,C9 rfl,XG,C9 (show to>(a:Int) by omega),cM,XG,ho,H,cM];simp only[ZV,pF,K,cM,D,lx];rw[show decide ((([]:List Int).length:Int)>0)=false from rfl];simp only[cM,pF,hb,e]
end Go.WU
namespace Go.WU
open Go Go.Sw Go.Mo Go.Pl
open Go.YL (sJ)
open Go.ZO (j1 N1 Kr ZA Tf news YH)
open Go.WM (dM dT)
open Go.l5 (Lk)
theorem Qu{n:Int}:∀(l:List (Int×aQ)) (prev:Int) (acc:List aQ),-1<=prev->j1 n prev l=true->∀i:Nat,(i:Int)<=prev->(Kr acc l)[i]? =acc[i]?
 | [],_,_,_,_,_,_=>rfl
 |x::l,prev,acc,z,h,i,A=>by
  simp only[j1,D1,pq] at h;have u:=h.1;unfold N1 at u;simp at u;show (Kr (acc.set x.1.toNat x.2) l)[i]? =_;rw[Qu l x.1 _ (by omega) h.2 i (by omega),uf (by omega)]
theorem BF{n:Int}:∀(l:List (Int×aQ)) (prev:Int) (acc:List aQ),-1<=prev->j1 n prev l=true->(n<=acc.length)->∀p∈l,(Kr acc l)[p.1.toNat]? =some p.2
 | [],_,_,_,_,_,p,u=>by simp at u
 |x::l,prev,acc,B,h,A,p,u=>by
  simp only[j1,D1,pq] at h;have z:=h.1;unfold N1 at z;simp at z;show (Kr (acc.set x.1.toNat x.2) l)[p.1.toNat]? =_;rcases m5.1 u with rfl | u
  ·rw[Qu l p.1 _ (by omega) h.2 _ (by omega),aBz (by omega)]
  ·exact BF l x.1 _ (by omega) h.2 (by rw[aCr];exact A) p u
theorem Vu{n:Int}:∀(l:List (Int×aQ)) (prev:Int),prev<n->j1 n prev l=true->(l.length:Int)<=n - 1 - prev
 | [],_,z,_=>by simp;omega
 |x::l,prev,z,h=>by
  simp only[j1,D1,pq] at h;have u:=h.1;unfold N1 at u;simp at u;have:=Vu l x.1 (by omega) h.2;simp only[D2];omega
variable {n:Nat}{snaps:List (List aQ)}
theorem MW{ps:List (Int×aQ)}{base:List aQ}(hr:j1 (base.length:Int) (-1) ps=true)(hb:base.length<=32):∀q∈ZA ps base [],bm q:=by
 intro q u;unfold ZA at u;obtain⟨p,A,rfl⟩:=bh.1 u;have B:=Go.ZO.J6 hr p (yw.1 A).1;unfold Tf;split
 ·exact⟨by simp only;omega,by simp,by simp,fun _=>rfl⟩
 ·split
  ·rename_i z;have:=aEe z;exact⟨by simp only;omega,by simp,by simp only;omega,fun _=>rfl⟩
  ·split
   ·rename_i h;simp at h
   ·exact⟨by simp only;omega,by simp,by simp,fun h=>by simp at h⟩
theorem IP{ps:List (Int×aQ)}{base:List aQ}:∀x∈tW (ZA ps base []),∃p∈ps,x=p.2:=by
 intro x A;unfold tW at A;obtain⟨q,z,rfl⟩:=bh.1 A;obtain⟨z,u⟩:=yw.1 z;unfold ZA at z;obtain⟨p,E,rfl⟩:=bh.1 z;refine⟨p,(yw.1 E).1,?_⟩;unfold Tf at u ⊢;split at u
 ·simp at u
 ·rename_i B;rw[WA B];split at u
  ·simp at u
  ·rename_i C;rw[WA C];split at u
   ·rename_i h;simp at h
   ·rename_i D;rw[WA D]
theorem Ln{f:Fm}(h1:0<=f.1/\f.1<=15)(h2:f.2.1.length<=9)(h3:f.2.2.length<=32)(h4:∀x∈f.2.1,0<=x/\x<=2147483647):dM f=0:=by
 have u:dT f=0:=by
  unfold dT;rw[WA (by omega),WA (by omega),WA];intro z;obtain⟨x,A,h⟩:=aDc.1 z;have:=h4 x A;rw[Go.WM.l4.2 this] at h;cases h
 unfold dM;rw[WJ u,WA (by omega)]
theorem MX{b:Int×List (Int×aQ)×List (Int×List (Int×aQ))×Bool}{now:List aQ}{WD:List (Int×List aQ)}{YM:Nat}{k:Int}(he:kd n b now snaps)(h0:1<=n)(h1:n<=32)(hh:snaps.length=YM+1)(l3:YM<=2147483647)
  (P9:∀s∈snaps,∀x∈s,YY x) (aOm:∀j l,fK WD j=some l->0<=j/\j<=YM/\l=snaps.getD j.toNat []) (aPc:fK WD (YM:Int)=some (snaps.getD YM [])) (hk: -1<=k/\k<YM):
  ∃m,(∀b0 b3 b4 b7 b8 WN WL WT WI WQ WK WO WG XD XC XB XA,dO b0 (n:Int) (YM:Int) b3 b4 b WD b7 b8 k WN WL WT WI WQ WK WO WG XD XC XB XA=some m)/\
   ∀cur:Int,0<=cur->cur<YM->(k= -1\/cur=k)->q8 n snaps cur YM m:=by
 have S:b.1=YM:=by have:=he.num;omega
 have I:∀i:Nat,i<snaps.length->snaps.getD i []∈snaps:=fun i M=>by
  rw[O4,D3 M];exact ei _
 have O:∀i:Nat,i<snaps.length->(snaps.getD i []).length=n:=fun i M=>he.len _ (I i M);have F:∀cur:Int,0<=cur->cur<YM->q8 n snaps cur YM ((5:Int),[(YM:Int)],snaps.getD YM []):=fun cur A B=>
  ⟨B,A,by omega,Ln (by simp) (by simp) (by have:=O YM (by omega);simp only;omega) (fun x C=>by simp at C;omega),fun x C=>P9 _ (I YM (by omega)) x C,.inl (by simp)⟩
 have G:(fK WD (YM:Int)).getD []=snaps.getD YM []:=by rw[aPc];rfl
 by_cases T:k<0
 ·refine⟨((5:Int),[(YM:Int)],snaps.getD YM []),?_,fun cur A B _=>F cur A B⟩
  intros
  unfold dO;rw[Go.l5.fa b n k (Go.l5.ao he.may),WA (by rw[he.may];simp),WJ (.inl T)];simp only[cM,Option.isNone_some,pF,jp,G]
 ·rcases he.since (k:=k) ⟨by omega,by omega⟩ with E |⟨z,E,X,D,bz⟩
  ·refine⟨((5:Int),[(YM:Int)],snaps.getD YM []),?_,fun cur A B _=>F cur A B⟩
   intros
   unfold dO;rw[E];simp only[cM,fx,XG,pF,jp,G]
  ·cases hg:fK WD k with
   |none=>
    refine⟨((5:Int),[(YM:Int)],snaps.getD YM []),?_,fun cur A B _=>F cur A B⟩
    intros
    unfold dO;rw[E];simp only[cM,fx,XG,pF,jp,G,hg,ZV]
   |some u=>
    obtain⟨_,_,H⟩:=aOm k u hg;have U:u.length=n:=by rw[H];exact O _ (by omega)
    have P:YH u []=0:=Go.ZO.bt (by omega) (by omega) (by simp) (by simp);rw[<-U] at D;have K:=MW D (by omega);have Q:=IN b.1 k z u bz P D K;by_cases M7:2+(ZA z u []).length<=9
    ·refine⟨rG (ZA z u []) k b.1,?_,fun cur A B N=>?_⟩
     ·intros
      unfold dO;rw[E];simp only[cM,fx,XG,jp,hg,aCv,yy,Q];rw[C9 (by omega),XG]
     ·have V:cur=k:=by rcases N with N | N<;>omega
      subst V;have aa:=Vt (ZA z u []);have R:Kr u z=snaps.getD b.1.toNat []:=by rw[<-X,<-H];rfl
      refine⟨by omega,A,by omega,Ln (by simp[rG]) (by simp[rG];omega) (by simp only[rG];omega) (fun x C=>?_),fun x C=>?_,.inr ⟨ZA z u [],news z u,by rw[S],by omega,K,?_,?_,?_,?_⟩⟩
      ·simp only[rG,K9,m5,aCs,aEt,bh] at C;rcases C with (rfl | rfl) |⟨q,hq,rfl⟩
       ·omega
       ·omega
       ·have h:=K q hq;have a1:=h.a;have a2:=h.k;have a3:=h.f;unfold pO;omega
      ·obtain⟨p,L,rfl⟩:=IP x C;have:=BF z (-1) u (by omega) D (yu _) p L;rw[R] at this;exact P9 _ (I _ (by omega)) _ (aB7 this)
      ·rw[<-H];exact Go.ZO.ju z u [] (by omega) (by simp) P D
      ·rw[<-H];have h1:sJ u (news z u)=Kr u (news z u):=rfl;rw[h1,Go.ZO.L6 (by omega) D (fun _ _=>rfl),R];congr 1;omega
      ·have h1:=Vu z (-1) (by omega) D;have h2:(news z u).length<=z.length:=aCx _ _;omega
      ·intro p L;have:=Go.ZO.xb D p L;omega
    ·refine⟨((5:Int),[(YM:Int)],snaps.getD YM []),?_,fun cur A B _=>F cur A B⟩
     intros
     unfold dO;rw[E];simp only[cM,fx,XG,jp,hg,aCv,yy,Q];rw[c8 (by omega),pF,G]
end Go.WU
namespace Go.WU
open Go Go.Sw Go.Mo Go.Pl
theorem SH(n c:Nat)(hc:c<=64):sh .shr .u64 (n:Int) (c:Int)=((n / 2 ^ c:Nat):Int):=Go.kc.aMl n c hc
theorem UA{a b:Nat}(ha:a<18446744073709551616)(hb:b<18446744073709551616):ar .and .u64 (a:Int) (b:Int)=((a &&& b:Nat):Int):=by
 show IntKind.wrap .u64 ((BitVec.ofInt 64 (a:Int) &&& BitVec.ofInt 64 (b:Int)).toNat:Int)=_;simp only[rZ,aEr,zg];rw[N2 (a:=a) (by omega),N2 (a:=b) (by omega)];have:a &&& b<=a:=Nat.and_le_left;show ((a &&& b:Nat):Int) % 18446744073709551616=_;omega
theorem DO{h:Nat}(hh:h<18446744073709551616):pS (h:Int)=some [((h / 8589934592:Nat):Int),((h / 4 % 2147483648:Nat):Int)]:=by
 unfold pS;have u:sh .shr .u64 (h:Int) (33:Int)=((h / 2 ^ 33:Nat):Int):=SH h 33 (by omega);have z:sh .shr .u64 (h:Int) (2:Int)=((h / 2 ^ 2:Nat):Int):=SH h 2 (by omega);have A:ar .and .u64 ((h / 2 ^ 2:Nat):Int) (2147483647:Int)=((h / 2 ^ 2 &&& 2147483647:Nat):Int):=UA (b:=2147483647) (by omega) (by omega);have B:∀x:Nat,x &&& 2147483647=x % 2147483648:=fun x=>aDd x 31;rw[u,z,A,B,wrap_i64 (by omega),wrap_i64 (by omega)]
theorem IS{bs:List aQ}(h0:1<=bs.length)(h1:bs.length<=32)(hb:∀b∈bs,YY b):∃x y:Int,jX bs=some [x,y]/\(0<=x/\x<=2147483647)/\(0<=y/\y<=2147483647):=by
 have B:=Go.kc.mh bs h0;have D:=B.ne;obtain⟨u,l,z⟩:∃u l,Go.kc.tree bs=u++[l]:=⟨_,_,(List.dropLast_concat_getLast D).symm⟩;have E:l.length=1:=by
  rcases B.at u [] l z with⟨_,h⟩|⟨m,r,h,_⟩
  ·exact h
  ·cases h
 obtain⟨v,rfl⟩:∃v,l=[v]:=by
  match l,E with
  | [v],_=>exact⟨v,rfl⟩
 have A:=(Go.kc.qj bs h1 [v] (by rw[z];simp)).1 v (by simp);have C:=Go.kc.qi bs;rw[z] at C;have K:u.length<=32:=by simp at C;omega
 unfold jX;rw[Go.kc.aMo bs hb (by omega),WA (by omega),cM];simp only[ZV,pF,z];have F:(((u++[[v]]).length:Nat):Int)=((u.length+1:Nat):Int):=by simp
 have G:ar .sub .i64 ((u.length+1:Nat):Int) 1=(u.length:Int):=by rw[L5 (by omega)];omega
 have H:Sw.idx (u++[[v]]) (u.length:Int)=some [v]:=qO (by simp);have I:Sw.idx [v] (0:Int)=some v:=by simp[Sw.idx]
 rw[F,G,H,cM,I,cM];obtain⟨h,rfl⟩:∃h:Nat,v=h:=⟨v.toNat,by have:=A;omega⟩;rw[DO (by have:=A;omega),cM];exact⟨_,_,rfl,by have:=A;omega,by omega⟩
end Go.WU
namespace Go.WU
open Go Go.Sw Go.Mo Go.Pl
open Go.YL (oD)
open Go.WM (Good bQ eZ dM)
def pX(fb ob:Nat):Int:=((fb*4096+ob:Nat):Int)
theorem sT{a b c d:Nat}(hb:b<4096)(hd:d<4096)(h:pX a b=pX c d):a=c/\b=d:=by unfold pX at h;omega
def kN(g:Nat):Fm:=((2:Int),[(g:Int)],[])
def fD(g o j:Nat)(t:List Int):Fm:=((3:Int),[(g:Int),(o:Int),(j:Int)]++t,[])
def WH(S:Int)(q:Nat)(m:Fm):Fm:=((1:Int),[S,(q:Int),m.1]++m.2.1,m.2.2)
def Ad(S:Int)(a:Nat):Fm:=((0:Int),[S,(a:Int)],[])
structure E6 (m:Fm):Prop where
 load:dM m=0
 YN:∀b∈m.2.2,YY b
structure Nm where
 n:Nat
 h:Nat
 fb:Nat
 ob:Nat
 k:Nat
 q:Nat
 x:Nat
def sZ(v:Nm)(s:PS)(S:Int):Prop:=∃g o:Nat,S=pX g o/\1<=g/\1<=o/\o<=v.ob/\(g<v.fb\/(g=v.fb/\S<=s.VA))/\(o=v.ob->(g:Int)<=s.first)
def Hy(v:Nm)(snaps:List (List aQ))(s:PS)(f:Fm):Prop:=
 (∃g:Nat,1<=g/\g<=v.fb/\f=kN g)\/
 (∃S q m,f=WH S q m/\E6 m/\sZ v s S/\(S=s.VA->q<v.q\/(q=v.q/\s.VC.2.2=[m]))/\(0<=s.first->S=s.receiver.1->q<=v.x/\(q=v.x->∃to,q8 v.n snaps v.k to m)))
def Hz(v:Nm)(snaps:List (List aQ))(s:PS)(f:Fm):Prop:=
 (∃g o j t,f=fD g o j t/\1<=g/\g<=v.fb/\1<=o/\o<=v.ob/\j<=v.k/\jX (snaps.getD j [])=some t/\(g=v.fb->o=v.ob->s.VA<pX g o->j=v.k/\s.first=(v.fb:Int)/\v.x=0))\/
 (∃S a,f=Ad S a/\sZ v s S/\(S=s.VA->a<=v.q\/(a=v.q+1/\s.VC.2.2≠ []/\s.sent<=v.k))/\(0<=s.first->S=s.receiver.1->a<=v.x))
structure q9 (v:Nm) (snaps:List (List aQ)) (s:PS) (y:Bool×Bool×List Int):Prop where
 bytes:Bytes y.2.2
 len:y.2.2.length<=2000
 ne:y.2.2≠ []
 F1:y.2.1=true->eZ y.2.2=none
 whole:y.2.1=false->∃f,Good f/\y.2.2=bQ f/\(y.1=true->Hy v snaps s f)/\(y.1=false->Hz v snaps s f)
structure Inv (v:Nm) (now:List aQ) (snaps:List (List aQ)) (s:PS):Prop where
 n0:1<=v.n
 n1:v.n<=32
 en:s.n=v.n
 efn:s.fn=v.n
 eon:s.on=v.n
 yl:s.p7=v.n
 nt:s.m8=v.n
 hs:snaps.length=v.h+1
 C2:v.h<=100000/\v.fb<=3000/\v.ob<=3000/\v.q<=100000/\v.x<=100000
 pos:1<=v.fb/\1<=v.ob
 enum:s.XV=v.h
 ZH:s.WS=v.fb
 T4:s.VW=v.ob
 W8:s.XU=v.k
 kh:v.k<=v.h
 aq:oD s.fd (snaps.getD v.h []) v.h v.fb
 F9:oD s.od (snaps.getD v.k []) v.k v.ob
 ep:kd v.n s.VL now snaps
 E8:s.blocks=now
 bok:∀l∈snaps,∀b∈l,YY b
 nok:∀b∈now,YY b
 WD:∀p∈s.WD,0<=p.1/\p.1<=v.h/\p.2=snaps.getD p.1.toNat []
 last:fK s.WD (v.h:Int)=some (snaps.getD v.h [])
 idle:s.first=v.fb->s.VA<pX v.fb v.ob->v.x=0
 safe:0<=s.safe/\s.safe<=v.k
 sent: -1<=s.sent/\s.sent<=v.h/\(s.sent= -1->0<v.h)
 low:s.VC.2.2=[]->s.sent<=s.safe
 VA:s.VA= -1\/∃o:Nat,1<=o/\o<=v.ob/\s.VA=pX v.fb o/\(o=v.ob->s.first=v.fb)
 VC:(s.VA= -1/\s.VC=(0,0,[])/\s.VI=[])\/(0<=s.VA/\s.VC.1=s.VA/\s.VC.2.1=v.q)
 queue:(s.VC.2.2=[]/\s.VI=[])\/∃m,s.VC.2.2=[m]/\s.VI=[s.sent]/\E6 m/\0<=s.sent
 first:(s.first= -1/\s.receiver=(0,0)/\v.x=0)\/∃g:Nat,1<=g/\g<=v.fb/\s.first=g/\s.receiver=(pX g v.ob,(v.x:Int))
 act:s.VA=pX v.fb v.ob->(v.x=v.q/\(s.VC.2.2=[]->s.sent=v.k\/(s.sent= -1/\v.k<v.h))/\(∀m,s.VC.2.2=[m]->q8 v.n snaps v.k s.sent m))\/(v.x=v.q+1/\s.VC.2.2≠ []/\s.sent=v.k)
 VZ:∀y∈s.VZ,q9 v snaps s y
 M1:s.VZ.length<=64
end Go.WU
namespace Go.WU
open Go Go.Sw Go.Mo Go.Pl
open Go.YL (oD)
open Go.WM (Good bQ eZ dM)
theorem B3:YY aS:=⟨by simp[aS],fun x h=>by simp[aS] at h;omega⟩
def Jh(n:Nat)(d1 d2:(List aQ)×(List (Int×aQ))×Int):PS:={ n:=n,fn:=n,XV:=0,WS:=1,blocks:=List.replicate n aS,VL:=(0,[],[],true),WD:=[(0,List.replicate n aS)],VA:= -1,VC:=(0,0,[]),sent:=0,safe:=0,VI:=[],on:=n,XU:=0,VW:=1,first:= -1,receiver:=(0,0),VZ:=[],p7:=n,fd:=d1,m8:=n,od:=d2 }
theorem DP{n:Nat}(h0:1<=n)(h1:n<=32){d1 d2:(List aQ)×(List (Int×aQ))×Int}(s1:oD d1 (List.replicate n aS) 0 1)(s2:oD d2 (List.replicate n aS) 0 1):
  Inv ⟨n,0,1,1,0,0,0⟩ (List.replicate n aS) [List.replicate n aS] (Jh n d1 d2):=by
 have u:∀b∈List.replicate n aS,YY b:=fun b E=>by rw[List.eq_of_mem_replicate E];exact B3
 have C:=Vs (m:=n) (snaps:=[List.replicate n aS]) ⟨h0,h1⟩ (num:=0) rfl (by decide) (fun s B=>by simp at B;subst B;simp);constructor
 case n0=>exact h0
 case n1=>exact h1
 case aq=>exact s1
 case F9=>exact s2
 case ep=>exact C
 case bok=>intro l z;simp at z;subst z;exact u
 case nok=>exact u
 case WD=>
  intro p A;simp only[Jh,zf] at A;subst A;simp
 case last=>rfl
 case VA=>exact .inl rfl
 case VC=>exact .inl ⟨rfl,rfl,rfl⟩
 case queue=>exact .inl ⟨rfl,rfl⟩
 case first=>exact .inl ⟨rfl,rfl,rfl⟩
 case act=>intro h;simp[Jh,pX] at h
 case VZ=>intro y D;simp[Jh] at D
 all_goals simp[Jh]
theorem IT{v:Nm}{now:List aQ}{snaps:List (List aQ)}{s:PS}(h:Inv v now snaps s){at_:Int}{b:aQ}(ha:0<=at_/\at_<v.n)(hb:YY b):
  ∃s',lH at_ b s=some (none,s')/\Inv v (now.set at_.toNat b) snaps s':=by
 have A:=h.ep.add (p:=(at_,b)) ha;have B:=Go.l5.aJg h.ep.may (p:=(at_,b)) ha;obtain⟨z,D,_⟩:=wT (l:=s.blocks) (n:=at_) ha.1 (by rw[h.E8,h.ep.U8];exact ha.2);refine⟨{ s with blocks:=s.blocks.set at_.toNat b,VL:=(s.VL.1,Go.l5.P0 s.VL.2.1 (at_,b),s.VL.2.2.1,s.VL.2.2.2) },?_,?_⟩
 ·unfold lH eT;rw[h.en,B];simp only[cM,ZV,pF,D]
 ·exact { h with
   ep:=A
   E8:=by rw[<-h.E8]
   nok:=fun x u=>by
    rcases aCz u with u | rfl
    ·exact h.nok x u
    ·exact hb
   VZ:=fun y C=>by
    have:=h.VZ y C
    exact⟨this.bytes,this.len,this.ne,this.F1,this.whole⟩}
theorem BG{v:Nm}{now:List aQ}{snaps:List (List aQ)}{s:PS}(h:Inv v now snaps s){at_:Int}{b:aQ}(ha:at_<0\/at_>=v.n):lH at_ b s=some (some 1,s):=by
 have u:=Go.l5.ud s.VL (v.n:Int) (at_,b) (Go.l5.ao h.ep.may);rw[WA (by rw[h.ep.may];simp),WJ ha] at u;unfold lH eT;rw[h.en,u];simp only[cM,aCv,XG];rw[<-h.en]
theorem MY{v:Nm}{now:List aQ}{snaps:List (List aQ)}{s:PS}(h:Inv v now snaps s){at_:Int}(ha:0<=at_/\at_<v.n):oG at_ s=some (now.getD at_.toNat [],none,s):=by
 obtain⟨z,u,A⟩:=wT (l:=now) (n:=at_) ha.1 (by rw[h.ep.U8];exact ha.2);unfold oG fU;rw[h.en,h.E8,cl,I2,c8 (by omega),pF,c8 (by omega)];simp only[cM,pF,u];congr 2;rw[O4,A];rfl
theorem IU{v:Nm}{now:List aQ}{snaps:List (List aQ)}{s:PS}(h:Inv v now snaps s){at_:Int}(ha:at_<0\/at_>=v.n):oG at_ s=some (aS,some 1,s):=by
 unfold oG fU;rw[h.en,cl,I2];by_cases u:at_<0
 ·rw[C9 u];simp
 ·rw[c8 u,C9 (by omega)];simp
theorem Qv{β:Type}{k j:Int}(hj:j≠k):∀m:List (Int×β),fK (Gb m k) j=fK m j
 | []=>rfl
 | (a,b)::m=>by
  have h:=Qv hj m;unfold Gb at h ⊢;simp only[E5,kp];by_cases u:a=k
  ·subst u;simp only[ZU,List.eraseIdx_cons_zero,fK];rw[WA (fun e=>hj e.symm)]
  ·rw[WA u];cases hk:kp (m.map (·.1)) k with
   |none=>simp
   |some q=>
    rw[hk] at h;simp only[pw,List.eraseIdx_cons_succ,fK];split
    ·rfl
    ·exact h
theorem IV{β:Type}{k:Int}{m:List (Int×β)}{p:Int×β}(h:p∈Gb m k):p∈m:=by
 unfold Gb at h;split at h
 ·exact List.mem_of_mem_eraseIdx h
 ·exact h
theorem Ia{β:Type}{j:Int}{l:β}:∀{m:List (Int×β)},fK m j=some l->(j,l)∈m
 | [],h=>by cases h
 | (a,b)::m,h=>by
  unfold fK at h;split at h
  ·rename_i e;subst e;cases h;exact Y9
  ·exact Y8 _ (Ia h)
theorem Vv{β:Type}{j:Int}{l:β}:∀{m:List (Int×β)},fK m j=none->fK (m++[(j,l)]) j=some l
 | [],_=>by simp[fK]
 | (a,b)::m,h=>by
  unfold fK at h;split at h
  ·cases h
  ·rename_i e;simp only[ek,fK];rw[WA e];exact Vv h
theorem BH{n:Int}:∀(l:List (Int×aQ)) (last:Int),last<n->Go.l5.YJ n last l=true->(l.length:Int)<=n - 1 - last
 | [],last,A,_=>by simp;omega
 |x::l,last,A,h=>by
  have u:=Go.l5.YP n (x::l) last h x (by simp);have z:Go.l5.YJ n x.1 l=true:=by
   unfold Go.l5.YJ at h;split at h
   ·cases h
   ·exact h
  have:=BH l x.1 u.2 z;simp only[D2];omega
end Go.WU
namespace Go.WU
open Go Go.Sw Go.Mo Go.Pl
open Go.YL (oD sJ)
open Go.l5 (uJ Es Bx Lk)
open Go.WM (Good bQ eZ dM)
theorem q8.mono{n:Nat}{snaps:List (List aQ)}{cur to:Int}{m:Fm}(h:q8 n snaps cur to m)(x:List aQ):q8 n (snaps++[x]) cur to m:=by
 have u:=h.lt;have z:=h.nn;have A:=h.le;refine⟨u,z,by simp;omega,h.load,h.YN,?_⟩;rw[uJ (by omega),uJ (by omega)];exact h.say
theorem q9.mono{v:Nm}{snaps:List (List aQ)}{s s':PS}{y:Bool×Bool×List Int}(h:q9 v snaps s y)(x:List aQ)(hk:v.k<snaps.length)(e1:s'.VA=s.VA)(e2:s'.VC=s.VC)(e3:s'.first=s.first)(e4:s'.receiver=s.receiver)(e5:s'.sent=s.sent)(hh:Nat):
  q9 { v with h:=hh } (snaps++[x]) s' y:=by
 refine⟨h.bytes,h.len,h.ne,h.F1,fun N=>?_⟩;obtain⟨f,P,Q,R,T⟩:=h.whole N;refine⟨f,P,Q,fun C=>?_,fun C=>?_⟩
 ·rcases R C with⟨g,u,z,A⟩|⟨S,q,m,u,z,A,B,K⟩
  ·exact .inl ⟨g,u,z,A⟩
  ·refine .inr ⟨S,q,m,u,z,?_,?_,?_⟩
   ·obtain⟨g,o,D,E,F,G,H,I⟩:=A;exact⟨g,o,D,E,F,G,by rw[e1];exact H,by rw[e3];exact I⟩
   ·rw[e1,e2];exact B
   ·rw[e3,e4];intro L M;obtain⟨U,V⟩:=K L M;exact⟨U,fun O=>by obtain⟨X,d4⟩:=V O;exact⟨X,d4.mono x⟩⟩
 ·rcases T C with⟨g,o,j,t,u,z,A,B,K,a6,a7,a8⟩|⟨S,a,u,z,A,B⟩
  ·refine .inl ⟨g,o,j,t,u,z,A,B,K,a6,?_,?_⟩
   ·rw[uJ (by omega)];exact a7
   ·rw[e1,e3];exact a8
  ·refine .inr ⟨S,a,u,?_,?_,?_⟩
   ·obtain⟨g,o,D,E,F,G,H,I⟩:=z;exact⟨g,o,D,E,F,G,by rw[e1];exact H,by rw[e3];exact I⟩
   ·rw[e1,e2,e5];exact A
   ·rw[e3,e4];exact B
theorem Yl{v:Nm}{now:List aQ}{snaps:List (List aQ)}{s:PS}(h:Inv v now snaps s)(hb:v.h+1<=100000):
  ∃s',qQ s=some (none,s')/\Inv { v with h:=v.h+1 } now (snaps++[now]) s':=by
 have l3:=h.C2;have pf:=h.kh;have ZF:=h.hs;have N9:=h.n1;have iu:=h.n0;have I:s.VL.1=v.h:=by have:=h.ep.num;omega
 obtain⟨k1,k2,k3,k4,k5,F,k7,k8,k9⟩:=Go.l5.ZZ h.ep.may;have K:snaps.getD v.h []∈snaps:=by
  rw[O4,D3 (by omega)];exact ei _
 have L:(snaps.getD v.h []).length=v.n:=h.ep.len _ K;have aa:=BH s.VL.2.1 (-1) (by omega) F;have M:=Go.l5.YP v.n s.VL.2.1 _ F;obtain⟨V,G,H,_⟩:=Nq h.aq (by omega) (by omega) (by omega) s.VL.2.1 ((v.h+1:Nat):Int) (by omega) (by omega) (fun p u=>by have:=M p u;omega);have N:sJ (snaps.getD v.h []) s.VL.2.1=now:=by
  have:=h.ep.open_;rw[I,m6] at this;exact this
 rw[N,m6] at G;rw[L] at H;have O:=Go.l5.wq h.ep.may (by omega);have aFd:fK s.WD ((v.h+1:Nat):Int)=none:=by
  cases hg:fK s.WD ((v.h+1:Nat):Int) with
  |none=>rfl
  |some l=>have:=h.WD _ (Ia hg);simp only at this;omega
 have E:Gz s.WD ((v.h+1:Nat):Int) now=some (s.WD++[(((v.h+1:Nat):Int),now)]):=by unfold Gz;rw[aFd]
 obtain⟨_,X⟩:=Kl (blocks:=now) s.WD (v.h+1) (by have:=h.ep.U8;omega) (by omega) (by rw[E];rfl);have P:ar .add .i64 s.XV (1:Int)=((v.h+1:Nat):Int):=by rw[h.enum,o8 (by omega)]
 refine⟨{ s with XV:=((v.h+1:Nat):Int),VL:=Bx s.VL,WD:=pN s.WD ((v.h+1:Nat):Int) now,p7:=v.n,fd:=V },?_,?_⟩
 ·unfold qQ fP;rw[P,h.ZH,h.yl,H,cM];simp only[ZV,pF];rw[h.efn,O,cM,h.E8];simp only[];rw[X,cM];rfl
 ·have D:(snaps++[now]).getD (v.h+1) []=now:=Es (by omega);have Q:(snaps++[now]).getD v.k []=snaps.getD v.k []:=uJ (by omega);have xm:pN s.WD ((v.h+1:Nat):Int) now=Gb (s.WD++[(((v.h+1:Nat):Int),now)]) (((v.h+1:Nat):Int) - 5):=by unfold pN;rw[E];rfl
  exact { h with
   hs:=by simp;omega
   C2:=by simp only;omega
   enum:=rfl
   kh:=by simp only;omega
   aq:=by rw[D];exact G
   F9:=by rw[Q];exact h.F9
   yl:=rfl
   ep:=h.ep.shut (by omega)
   bok:=fun l z=>by
    rcases K9.1 z with z | z
    ·exact h.bok l z
    ·simp at z;subst z;exact h.nok
   WD:=fun p u=>by
    simp only at u ⊢;rw[xm] at u;rcases K9.1 (IV u) with u | u
    ·obtain⟨A,C,B⟩:=h.WD p u;exact⟨A,by omega,by rw[uJ (by omega)];exact B⟩
    ·simp only[zf] at u;subst u;exact⟨by simp only;omega,by simp only;omega,by simp only;rw[m6,D]⟩
   last:=by
    simp only;rw[xm,Qv (by omega),Vv aFd,D]
   sent:=by have:=h.sent;simp only;omega
   act:=fun R=>by
    rcases h.act R with⟨A,C,B⟩|⟨A,C,B⟩
    ·refine .inl ⟨A,fun S=>?_,fun m T=>(B m T).mono now⟩;rcases C S with c |⟨c1,c2⟩
     ·exact .inl c
     ·exact .inr ⟨c1,by simp only;omega⟩
    ·exact .inr ⟨A,C,B⟩
   VZ:=fun y U=>by
    refine q9.mono (s:=s) (h.VZ y U) now (by omega) ?_ ?_ ?_ ?_ ?_ (v.h+1)<;>rfl }
end Go.WU
namespace Go.WU
open Go Go.Sw Go.Mo Go.Pl
open Go.WM (Good bQ eZ dM)
def D5(a:Int):Prop:= -9223372036854775808<=a/\a<=9223372036854775807
theorem IW{a:Int}(h:D5 a):∃k:Nat,max a (IntKind.wrap .i64 (0 - (ar .add .i64 a (1:Int))))=(k:Int)/\(a=0->k=0):=by
 unfold D5 at h;by_cases u:a=9223372036854775807
 ·subst u;have z:ar .add .i64 (9223372036854775807:Int) 1= -9223372036854775808:=by decide+kernel
  have A:IntKind.wrap .i64 (0 - (-9223372036854775808:Int))= -9223372036854775808:=by decide+kernel
  rw[z,A];exact⟨9223372036854775807,by omega,fun c=>by omega⟩
 ·rw[ZN (by omega),wrap_i64 (by omega)];exact⟨(max a (0 - (a+1))).toNat,by omega,fun c=>by omega⟩
theorem q9.same{v:Nm}{snaps:List (List aQ)}{s s':PS}{y:Bool×Bool×List Int}(h:q9 v snaps s y)(e1:s'.VA=s.VA)(e2:s'.VC=s.VC)(e3:s'.first=s.first)(e4:s'.receiver=s.receiver)(e5:s'.sent=s.sent):q9 v snaps s' y:=by
 refine⟨h.bytes,h.len,h.ne,h.F1,fun z=>?_⟩;obtain⟨f,A,B,C,D⟩:=h.whole z;refine⟨f,A,B,fun u=>?_,fun u=>?_⟩
 ·have:=C u;unfold Hy sZ at this ⊢;rw[e1,e2,e3,e4];exact this
 ·have:=D u;unfold Hz sZ at this ⊢;rw[e1,e2,e3,e4,e5];exact this
variable {v:Nm}{now:List aQ}{snaps:List (List aQ)}{s:PS}
theorem Inv.U2(h:Inv v now snaps s){l:List (Bool×Bool×List Int)}(hl:l.length<=64)(hm:∀y∈l,q9 v snaps s y):Inv v now snaps { s with VZ:=l }:=
 { h with
  VZ:=fun y u=>(hm y u).same rfl rfl rfl rfl rfl
  M1:=hl }
theorem Ib(h:Inv v now snaps s){a:Int}(ha:D5 a):(s.VZ=[]/\jK a s=some (0,false,s))\/∃i:Nat,i<s.VZ.length/\jK a s=some ((i:Int),true,s)/\
  (∀b0 b1 b2 b3 b4 b5 b6 b7 b8 b9 WN WL WT WI WQ WK WO XD XC XB XA,cE a b0 b1 b2 b3 b4 b5 b6 b7 b8 b9 WN WL WT WI WQ WK WO s.VZ XD XC XB XA=some ((i:Int),true))/\(a=0->i=0):=by
 by_cases u:s.VZ=[]
 ·refine .inl ⟨u,?_⟩;unfold jK cE;rw[u];rfl
 ·right;have A:0<s.VZ.length:=ue.2 u;obtain⟨k,C,D⟩:=IW ha;have z:∀b0 b1 b2 b3 b4 b5 b6 b7 b8 b9 WN WL WT WI WQ WK WO XD XC XB XA,cE a b0 b1 b2 b3 b4 b5 b6 b7 b8 b9 WN WL WT WI WQ WK WO s.VZ XD XC XB XA=some (((k % s.VZ.length:Nat):Int),true):=by
   intros
   unfold cE;rw[ce,c8 (by omega),pF,C];have B:nz ((s.VZ.length:Nat):Int)=some ():=by unfold nz;rw[WA (by omega)]
   rw[B,cM];rfl
  refine⟨k % s.VZ.length,lv _ A,?_,z,fun c=>by rw[D c];exact Nat.zero_mod _⟩;unfold jK;rw[z];rfl
theorem BI{α:Type}(l:List α)(i:Nat)(hi:i<l.length):Sw.del l (i:Int) ((i+1:Nat):Int)=some (l.take i++l.drop (i+1)):=by
 unfold Sw.del Sw.sub;rw[WJ (by omega)];simp
theorem Qw{l:List (Bool×Bool×List Int)}(hl:l.length<=1000):cZ l=some l:=by
 unfold cZ;rw[VD _ _ (by simp;omega)];rfl
theorem MZ(h:Inv v now snaps s){a:Int}(ha:D5 a):∃s',rF a s=some (none,s')/\Inv v now snaps s':=by
 rcases Ib h ha with⟨C,u⟩|⟨i,A,u,B,D⟩
 ·refine⟨{ s with VZ:=s.VZ },?_,h⟩;unfold jK at u;unfold rF fW;cases hq:cE a s.n s.fn s.XV s.WS s.blocks s.VL s.WD s.VA s.VC s.sent s.safe s.VI s.on s.XU s.VW s.first s.receiver s.VZ s.p7 s.fd s.m8 s.od with
  |none=>rw[hq] at u;cases u
  |some q=>
   rw[hq] at u;simp only[cM,A7,ak] at u;simp only[cM,jp,u.2.1,pF]
 ·refine⟨{ s with VZ:=s.VZ.take i++s.VZ.drop (i+1) },?_,h.U2 (by have:=h.M1;simp;omega) (fun y z=>h.VZ y (by
   rcases K9.1 z with z | z
   ·exact aCo z
   ·exact aDq z))⟩
  unfold rF fW cT;rw[B,cM];simp only[jp,XG];rw[Qw (by have:=h.M1;omega),cM,o8 (by have:=h.M1;omega),BI _ _ A];rfl
theorem DQ(h:Inv v now snaps s){a:Int}(ha:D5 a):∃s',lJ a s=some (none,s')/\Inv v now snaps s':=by
 rcases Ib h ha with⟨E,u⟩|⟨i,B,u,A,F⟩
 ·refine⟨{ s with VZ:=s.VZ },?_,h⟩;unfold jK at u;unfold lJ eH;cases hq:cE a s.n s.fn s.XV s.WS s.blocks s.VL s.WD s.VA s.VC s.sent s.safe s.VI s.on s.XU s.VW s.first s.receiver s.VZ s.p7 s.fd s.m8 s.od with
  |none=>rw[hq] at u;cases u
  |some q=>
   rw[hq] at u;simp only[cM,A7,ak] at u;simp only[cM,jp,u.2.1,pF]
 ·have C:=h.M1;by_cases D:s.VZ.length<64
  ·refine⟨{ s with VZ:=s.VZ++[s.VZ[i]] },?_,h.U2 (by simp;omega) (fun y z=>h.VZ y (by
    rcases K9.1 z with z | z
    ·exact z
    ·simp at z;subst z;exact ei _))⟩
   unfold lJ eH;rw[A,cM];simp only[jp,XG,cl];rw[C9 (by omega),cM,XG,qO (D3 B),cM,VD _ _ (by simp;omega)];rfl
  ·refine⟨{ s with VZ:=s.VZ },?_,h⟩;unfold lJ eH;rw[A,cM];simp only[jp,XG,cl];rw[c8 (by omega)];simp only[cM,pF]
end Go.WU
namespace Go.WU
open Go Go.Sw Go.Mo Go.Pl
open Go.WM (Good bQ eZ dM)
variable {v:Nm}{now:List aQ}{snaps:List (List aQ)}{s:PS}
theorem UO:∀a:Fin 256,ar .or .u8 ((a.1:Nat):Int) 1=((a.1 ||| 1:Nat):Int):=by decide+kernel
theorem UB{b:Int}(h:0<=b/\b<=255):ar .or .u8 b 1=((b.toNat ||| 1:Nat):Int):=by
 have:=UO ⟨b.toNat,by omega⟩;simp only at this;rw[<-this];congr 1;omega
theorem DR{a b:Nat}(ha:a<256)(hb:b<256):a ^^^ (b ||| 1)≠a/\a ^^^ (b ||| 1)<256:=by
 have z:b ||| 1<2 ^ 8:=aD1 (by simpa using hb) (by decide)
 have A:a ^^^ (b ||| 1)<2 ^ 8:=aCd (by simpa using ha) z;refine⟨fun h=>?_,by simpa using A⟩;have B:b ||| 1=0:=by
  have this:a ^^^ (a ^^^ (b ||| 1))=a ^^^ a:=by rw[h]
  rw[<-Nat.xor_assoc,Nat.xor_self,Nat.zero_xor] at this;exact this
 have u:(b ||| 1).testBit 0=true:=by rw[Nat.testBit_or];simp
 rw[B] at u;simp at u
theorem DS(h:Inv v now snaps s){d:Int×Int×Int×aQ}(h1:D5 d.2.1)(h2:D5 d.2.2.1)(h3:YY d.2.2.2):∃s',lK d s=some (none,s')/\Inv v now snaps s':=by
 rcases Ib h h1 with⟨hn,A⟩|⟨i,L,A,M,ab⟩
 ·refine⟨{ s with VZ:=s.VZ },?_,h⟩;unfold jK at A;unfold lK eI;cases hq:cE d.2.1 s.n s.fn s.XV s.WS s.blocks s.VL s.WD s.VA s.VC s.sent s.safe s.VI s.on s.XU s.VW s.first s.receiver s.VZ s.p7 s.fd s.m8 s.od with
  |none=>rw[hq] at A;cases A
  |some q=>
   rw[hq] at A;simp only[cM,A7,ak] at A;simp only[cM,A.2.1,ve,XG]
 ·have hl:=h.M1;have E:=qO (D3 L);have B:=h.VZ _ (ei L);generalize hy:s.VZ[i]=y at E B;by_cases C:y.2.1=true
  ·refine⟨{ s with VZ:=s.VZ },?_,h⟩;unfold lK eI;rw[M,cM];simp only[lx,pF,E,cM,C,XG]
  ·have C:y.2.1=false:=by simpa using C
   obtain⟨f,g1,I,_,_⟩:=B.whole C;have N:=B.len;have O:0<y.2.2.length:=ue.2 B.ne;obtain⟨k,hk,_⟩:=IW h2;have D:k % y.2.2.length<y.2.2.length:=lv _ O;have H:=B.bytes (y.2.2[k % y.2.2.length]) (ei D);obtain⟨b0,K⟩:∃b0,d.2.2.2[0]? =some b0:=⟨_,D3 (by have:=h3.1;omega)⟩;have P:=h3.2 b0 (aB7 K);have Q:Sw.idx d.2.2.2 (0:Int)=some b0:=qO (i:=0) K;generalize dy:y.2.2[k % y.2.2.length]=z at H;have R:Sw.idx y.2.2 ((k % y.2.2.length:Nat):Int)=some z:=qO (by rw[<-dy];exact D3 D);have hx:=DR (a:=z.toNat) (b:=b0.toNat) (by omega) (by omega);have S:ar .or .u8 b0 1=((b0.toNat ||| 1:Nat):Int):=UB P;have aa:b0.toNat ||| 1<2 ^ 8:=aD1 (by omega) (by decide)
   have T:ar .xor .u8 z ((b0.toNat ||| 1:Nat):Int)=((z.toNat ^^^ (b0.toNat ||| 1):Nat):Int):=by
    rw[Go.WM.aUq H (by omega),m6]
   obtain⟨w,hw⟩:∃w:Int,w=((z.toNat ^^^ (b0.toNat ||| 1):Nat):Int):=⟨_,rfl⟩;have F:Bytes (y.2.2.set (k % y.2.2.length) w):=fun x u=>by
    rcases aCz u with u | rfl
    ·exact B.bytes x u
    ·omega
   have U:q9 v snaps s (y.1,true,y.2.2.set (k % y.2.2.length) w):=by
    refine⟨F,by simp only[aCr];exact N,fun G=>by have:=congrArg List.length G;simp only[aCr,T6] at this;omega,fun _=>?_,fun hf=>by cases hf⟩;simp only[I] at F D ⊢;have V:Bytes ((bQ f).set (k % (bQ f).length) w):=F;refine Go.WM.F1 g1 D (by omega) (fun G=>?_) V;have:(bQ f)[k % (bQ f).length]=z:=by rw[<-dy];simp only[I]
    rw[this] at G;omega
   refine⟨{ s with VZ:=s.VZ.set i (y.1,true,y.2.2.set (k % y.2.2.length) w) },?_,h.U2 (by simp;omega) (fun x u=>?_)⟩
   ·unfold lK eI nF;rw[M,cM];have X:nz ((y.2.2.length:Nat):Int)=some ():=by unfold nz;rw[WA (by omega)]
    have xm:ar .rem .i64 (k:Int) (y.2.2.length:Int)=((k % y.2.2.length:Nat):Int):=rfl;simp only[lx,pF,E,cM,C];rw[VD _ _ (by simp;omega),Y7,cM,X,cM,hk,xm,R,cM,Q,cM];simp only[cM,S,T,<-hw,m6]
   ·rcases aCz u with u | rfl
    ·exact h.VZ x u
    ·exact U
end Go.WU
namespace Go.WU
open Go Go.Sw Go.Mo Go.Pl
open Go.YL (oD)
open Go.WM (Good bQ eZ dM)
variable {v:Nm}{now:List aQ}{snaps:List (List aQ)}{s:PS}
theorem yU(a b:Nat):0<=pX a b:=by unfold pX;omega
theorem DT(h:Inv v now snaps s)(hb:v.fb+1<=3000)(a1:Int×Int×Int×aQ):
  ∃s',kQ a1 s.n s.fn s.XV s.WS s.blocks s.VL s.WD s.VA s.VC s.sent s.safe s.VI s.on s.XU s.VW s.first s.receiver s.VZ s.p7 s.fd s.m8 s.od=some (aS,none,WC s')/\s'.VZ=s.VZ/\
   Inv { v with fb:=v.fb+1,q:=0 } (snaps.getD v.h []) snaps s':=by
 have l3:=h.C2;have pf:=h.kh;have P:=h.hs;have Q:=h.n1;have R:=h.n0;have K:snaps.getD v.h []∈snaps:=by
  rw[O4,D3 (by omega)];exact ei _
 have T:(snaps.getD v.h []).length=v.n:=h.ep.len _ K;have L:=Vr h.aq (by omega) (by omega);obtain⟨X,sn,_,N⟩:=Hu h.aq (by omega) (by omega) (by omega) (by omega);rw[T] at L N;refine⟨{ s with fn:=v.n,XV:=(v.h:Int),WS:=((v.fb+1:Nat):Int),blocks:=snaps.getD v.h [],VL:=((v.h:Int),[],[],true),WD:=[((v.h:Int),snaps.getD v.h [])],VA:= -1,VC:=(0,0,[]),sent:=0,safe:=0,VI:=[],p7:=v.n,fd:=X },?_,rfl,?_⟩
 ·unfold kQ;rw[h.yl,h.en,L,cM];simp only[vU,fx,XG,jp];rw[N,cM];rfl
 ·exact { h with
   C2:=by simp only;omega
   pos:=by have:=h.pos;simp only;omega
   efn:=rfl
   enum:=rfl
   ZH:=rfl
   aq:=sn
   yl:=rfl
   ep:=Vs ⟨R,Q⟩ P (by omega) h.ep.len
   E8:=rfl
   nok:=h.bok _ K
   WD:=fun p M=>by
    simp only[zf] at M;subst M;exact⟨by simp only;omega,by simp only;omega,by simp only;rw[m6]⟩
   low:=fun _=>yu _
   last:=by simp only;unfold fK;simp[kp]
   idle:=fun c=>by
    simp only at c;rcases h.first with⟨H,_⟩|⟨g,H,c2,O,_⟩<;>omega
   safe:=by simp only;omega
   sent:=by simp only;omega
   VA:= .inl rfl
   VC:= .inl ⟨rfl,rfl,rfl⟩
   queue:= .inl ⟨rfl,rfl⟩
   first:=by
    rcases h.first with c |⟨g,H,c2,O,c4⟩
    ·exact .inl c
    ·exact .inr ⟨g,H,by simp only;omega,O,c4⟩
   act:=fun U=>by have:=yU (v.fb+1) v.ob;simp only at U;omega
   VZ:=fun y u=>by
    have u:=h.VZ y u;refine⟨u.bytes,u.len,u.ne,u.F1,fun V=>?_⟩;obtain⟨f,g1,g2,g3,g4⟩:=u.whole V;refine⟨f,g1,g2,fun hb=>?_,fun hb=>?_⟩
    ·rcases g3 hb with⟨g,a1,z,A⟩|⟨S,q,m,a1,z,A,B,I⟩
     ·exact .inl ⟨g,a1,by simp only;omega,A⟩
     ·obtain⟨g,o,C,D,E,F,b5,G⟩:=A;refine .inr ⟨S,q,m,a1,z,⟨g,o,C,D,E,F,.inl (by simp only;omega),G⟩,fun c=>?_,I⟩;have:=yU g o;simp only at c;omega
    ·rcases g4 hb with⟨g,o,j,t,a1,z,A,B,I,a6,a7,a8⟩|⟨S,a,a1,z,A,B⟩
     ·exact .inl ⟨g,o,j,t,a1,z,by simp only;omega,B,I,a6,a7,fun c=>by simp only at c;omega⟩
     ·obtain⟨g,o,C,D,E,F,b5,G⟩:=z;refine .inr ⟨S,a,a1,⟨g,o,C,D,E,F,.inl (by simp only;omega),G⟩,fun c=>?_,B⟩
      have:=yU g o;simp only at c;omega }
theorem DU(h:Inv v now snaps s)(hb:v.ob+1<=3000)(a1:Int×Int×Int×aQ):
  ∃s',kD a1 s.n s.fn s.XV s.WS s.blocks s.VL s.WD s.VA s.VC s.sent s.safe s.VI s.on s.XU s.VW s.first s.receiver s.VZ s.p7 s.fd s.m8 s.od=some (aS,none,WC s')/\s'.VZ=s.VZ/\
   Inv { v with ob:=v.ob+1,x:=0 } now snaps s':=by
 have l3:=h.C2;have pf:=h.kh;have ZF:=h.hs;have N9:=h.n1;have iu:=h.n0;have M:snaps.getD v.k []∈snaps:=by
  rw[O4,D3 (by omega)];exact ei _
 have N:(snaps.getD v.k []).length=v.n:=h.ep.len _ M;have I:=Vr h.F9 (by omega) (by omega);obtain⟨P,Q,_,K⟩:=Hv h.F9 (by omega) (by omega) (by omega) (by omega);rw[N] at I K;refine⟨{ s with on:=v.n,XU:=(v.k:Int),VW:=((v.ob+1:Nat):Int),first:= -1,receiver:=(0,0),m8:=v.n,od:=P },?_,rfl,?_⟩
 ·unfold kD;rw[h.nt,h.en,I,cM];simp only[vU,fx,XG,jp];rw[K,cM];rw[<-h.en];rfl
 ·exact { h with
   C2:=by simp only;omega
   pos:=by have:=h.pos;simp only;omega
   eon:=rfl
   W8:=rfl
   T4:=rfl
   F9:=Q
   nt:=rfl
   VA:=by
    rcases h.VA with c |⟨o,L,c2,H,c4⟩
    ·exact .inl c
    ·exact .inr ⟨o,L,by simp only;omega,H,fun c=>by simp only at c;omega⟩
   first:= .inl ⟨rfl,rfl,rfl⟩
   idle:=fun _ _=>rfl
   act:=fun C=>by
    simp only at C;rcases h.VA with c |⟨o,L,c2,H,c4⟩
    ·have:=yU v.fb (v.ob+1);omega
    ·rw[H] at C;have:=(sT (by omega) (by omega) C).2;omega
   VZ:=fun y u=>by
    have u:=h.VZ y u;refine⟨u.bytes,u.len,u.ne,u.F1,fun O=>?_⟩;obtain⟨f,R,T,U,V⟩:=u.whole O;refine⟨f,R,T,fun hb=>?_,fun hb=>?_⟩
    ·rcases U hb with⟨g,a1,z,A⟩|⟨S,q,m,a1,z,A,B,a5⟩
     ·exact .inl ⟨g,a1,z,A⟩
     ·obtain⟨g,o,D,E,F,X,G,b6⟩:=A;refine .inr ⟨S,q,m,a1,z,⟨g,o,D,E,F,by simp only;omega,G,fun c=>by simp only at c;omega⟩,B,fun c=>?_⟩;simp only at c;omega
    ·rcases V hb with⟨g,o,j,t,a1,z,A,B,a5,a6,a7,a8⟩|⟨S,a,a1,z,A,B⟩
     ·exact .inl ⟨g,o,j,t,a1,z,A,B,by simp only;omega,a6,a7,fun _ c=>by simp only at c;omega⟩
     ·obtain⟨g,o,D,E,F,X,G,b6⟩:=z;refine .inr ⟨S,a,a1,⟨g,o,D,E,F,by simp only;omega,G,fun c=>by simp only at c;omega⟩,A,fun c=>?_⟩
      simp only at c;omega }
end Go.WU
namespace Go.WU
open Go Go.Sw Go.Mo Go.Pl
open Go.YL (oD)
open Go.WM (Good bQ eZ dM dT qP Et kE wW rE jG Jf Nn mZ Jg)
variable {v:Nm}{now:List aQ}{snaps:List (List aQ)}{s:PS}
def oH(l:List (Bool×Bool×List Int))(y:Bool×Bool×List Int):List (Bool×Bool×List Int):=if l.length<64 then l++[y] else l
def Sp(s s':PS):Prop:=s'.VZ=s.VZ\/∃y,s'.VZ=oH s.VZ (false,y)
theorem Qx{l:List (Bool×Bool×List Int)}{y}(h:l.length<=64):(oH l y).length<=64:=by
 unfold oH;split
 ·simp;omega
 ·exact h
theorem DV{l:List (Bool×Bool×List Int)}{x y}(h:x∈oH l y):x∈l\/x=y:=by
 unfold oH at h;split at h
 ·simpa using h
 ·exact .inl h
theorem o5{f:Fm}(g:Good f):bQ f≠ []/\(bQ f).length<=1004:=by
 have z:=(rE g).2;have u:(bQ f).length=(Go.WM.body f).length+4:=by unfold bQ;rw[sM];unfold Go.WM.u1;simp
 exact⟨fun h=>by rw[h] at u;simp at u,by omega⟩
theorem Ic(dir:Bool)(b:List Int)(b0 b1 b2 b3 b4 b5 b6 b7 b8 b9 WN WL WT WI WQ WK WO WG XD XC XB XA)(hl:WG.length<=64):
  eE dir (false,b) b0 b1 b2 b3 b4 b5 b6 b7 b8 b9 WN WL WT WI WQ WK WO WG XD XC XB XA=some (oH WG (dir,false,b)):=by
 unfold eE oH;simp only[ve,XG,cM];by_cases h:WG.length<64
 ·have:cm .lss (WG.length:Int) (64:Int)=true:=by rw[cl];exact C9 (by omega)
  rw[this,WJ h,XG,VD _ _ (by simp;omega),cM]
 ·have:cm .lss (WG.length:Int) (64:Int)=false:=by rw[cl];exact c8 (by omega)
  rw[this,WA h,pF]
theorem Sq{f:Fm}(g:Good f)(he:dT f=0)(dir:Bool)(b0 b1 b2 b3 b4 b5 b6 b7 b8 b9 WN WL WT WI WQ WK WO WG XD XC XB XA)(hl:WG.length<=64):
  iS dir f b0 b1 b2 b3 b4 b5 b6 b7 b8 b9 WN WL WT WI WQ WK WO WG XD XC XB XA=some (none,oH WG (dir,false,bQ f)):=by
 unfold iS;rw[Et g he,cM];have h:GN (bQ f)=some ():=by
  unfold GN;have:=(o5 g).1;cases hp:bQ f with
  |nil=>exact absurd hp this
  |cons a l=>rfl
 simp only[jp,fx,XG];rw[h,cM,Ic _ _ _ _ _ _ _ _ _ _ _ _ _ _ _ _ _ _ _ _ _ _ _ _ hl];rfl
theorem Inv.push(h:Inv v now snaps s){y:Bool×Bool×List Int}(hy:q9 v snaps s y):Inv v now snaps { s with VZ:=oH s.VZ y }:=
 h.U2 (Qx h.M1) (fun x u=>by
  rcases DV u with u | rfl
  ·exact h.VZ x u
  ·exact hy)
theorem Eu{f:Fm}(g:Good f)(dir:Bool)(h1:dir=true->Hy v snaps s f)(h2:dir=false->Hz v snaps s f):q9 v snaps s (dir,false,bQ f):=
 ⟨wW g,by have:=(o5 g).2;simp only;omega,(o5 g).1,fun h=>(nomatch h),fun _=>⟨f,g,rfl,h1,h2⟩⟩
theorem Ym{g:Nat}(h:g<=2147483647):dT (kN g)=0/\Good (kN g):=by
 have z:dM (kN g)=0:=Ln (by unfold kN;simp only;omega) (by unfold kN;simp) (by unfold kN;simp) (fun x u=>by simp only[kN,zf] at u;subst u;omega);have:=(Go.WM.j8 z).1;exact⟨this,qP this (fun b A=>by simp[kN] at A)⟩
theorem E9{S:Int}{q:Nat}{m:Fm}(hm:E6 m)(hS:0<=S/\S<=2147483647)(hq:q<=2147483647):Good (WH S q m):=by
 obtain⟨u,z⟩:=Go.WM.j8 hm.load;have g:=qP u hm.YN;refine⟨by unfold WH;simp,by unfold WH;simp,by unfold WH;simp;omega,g.bs,fun n h=>?_,g.YN⟩;simp only[WH,ek,Y7,m5] at h;rcases h with rfl | rfl | rfl | h
 ·exact hS
 ·omega
 ·have:=g.s0;have:=g.s1;omega
 ·exact g.num n h
theorem DW(h:Inv v now snaps s)(hS:0<=s.VA)(hq:s.VC.2.2=[])(hs:s.sent<v.h){m:Fm}(hm:E6 m)(hn:∀cur:Int,0<=cur->cur<v.h->(s.sent= -1\/cur=s.sent)->q8 v.n snaps cur v.h m):
  Inv v now snaps { s with VC:=(s.VA,(v.q:Int),[m]),sent:=(v.h:Int),VI:=[(v.h:Int)] }:=by
 have P:=h.C2
 exact { h with
  sent:=by simp only;omega
  VC:= .inr ⟨hS,rfl,rfl⟩
  low:=fun c=>by simp at c
  queue:= .inr ⟨m,rfl,rfl,hm,by simp only;omega⟩
  act:=fun G=>by
   rcases h.act G with⟨A,z,B⟩|⟨A,z,B⟩
   ·refine .inl ⟨A,fun c=>by simp at c,fun E F=>?_⟩;simp only[aEw,and_true] at F;subst F;rcases z hq with c |⟨N,Q⟩
    ·exact hn v.k (by omega) (by omega) (.inr c.symm)
    ·exact hn v.k (by omega) (by omega) (.inl N)
   ·exact absurd hq z
  VZ:=fun y u=>by
   have u:=h.VZ y u;refine⟨u.bytes,u.len,u.ne,u.F1,fun H=>?_⟩;obtain⟨f,I,K,L,M⟩:=u.whole H;refine⟨f,I,K,fun C=>?_,fun C=>?_⟩
   ·rcases L C with c |⟨S,q,E,A,z,B,D,O⟩
    ·exact .inl c
    ·refine .inr ⟨S,q,E,A,z,B,fun c=>?_,O⟩;rcases D c with c |⟨_,c⟩
     ·exact .inl c
     ·rw[hq] at c;simp at c
   ·rcases M C with c |⟨S,a,A,z,B,D⟩
    ·exact .inl c
    ·refine .inr ⟨S,a,A,z,fun c=>?_,D⟩;rcases B c with c |⟨_,c,_⟩
     ·exact .inl c
     ·exact absurd hq c }
theorem BJ{v:Nm}{now:List aQ}{snaps:List (List aQ)}{s:PS}(h:Inv v now snaps s):s.VA<=2147483647:=by
 have z:=h.C2;rcases h.VA with c |⟨o,A,B,u,C⟩
 ·omega
 ·rw[u];unfold pX;omega
theorem Ox(h:Inv v now snaps s)(hS:0<=s.VA){m:Fm}(hq:s.VC.2.2=[m])(hm:E6 m):Hy v snaps s (WH s.VA v.q m):=by
 have L:=h.C2;rcases h.VA with c |⟨o,D,E,u,F⟩
 ·omega
 ·refine .inr ⟨_,_,m,rfl,hm,⟨v.fb,o,u,h.pos.1,D,E,.inr ⟨rfl,by omega⟩,fun e=>by rw[F e];exact yu _⟩,fun _=> .inr ⟨rfl,hq⟩,fun M z=>?_⟩;rcases h.first with⟨G,_⟩|⟨g,G,O,P,H⟩
  ·omega
  ·rw[H] at z;simp only at z;have A:=z;rw[u] at A;obtain⟨N,C⟩:=sT (by omega) (by omega) A;rw[C] at u;rcases h.act u with⟨I,K,B⟩|⟨I,K,B⟩
   ·exact⟨by omega,fun _=>⟨_,B m hq⟩⟩
   ·exact⟨by omega,fun c=>by omega⟩
end Go.WU
namespace Go.WU
open Go Go.Sw Go.Mo Go.Pl
open Go.YL (oD)
open Go.WM (Good bQ eZ dM dT qP Et kE wW rE jG Jf Nn mZ Jg)
variable {v:Nm}{now:List aQ}{snaps:List (List aQ)}{s:PS}
def PW(v:Nm)(s s':PS):Prop:=s'.first=s.first/\s'.VA=s.VA/\
 ((s.VA<0/\s'.VZ=oH s.VZ (true,false,bQ (kN v.fb)))\/
  (0<=s.VA/\s'.VC.2.2=[]/\s'.sent=v.h/\s'.VZ=oH s.VZ (true,false,bQ (kN v.fb)))\/
  (0<=s.VA/\∃m,s'.VC.2.2=[m]/\E6 m/\(s.VC.2.2=[]->s'.sent=v.h)/\s'.VZ=oH (oH s.VZ (true,false,bQ (kN v.fb))) (true,false,bQ (WH s.VA v.q m))))
theorem NA(h:Inv v now snaps s):∃s',lX s=some (none,s')/\Inv v now snaps s'/\PW v s s':=by
 have l3:=h.C2;have G:=h.M1;obtain⟨he,hg⟩:=Ym (g:=v.fb) (by omega);have K:Inv v now snaps { s with VZ:=oH s.VZ (true,false,bQ (kN v.fb)) }:=
  h.push (Eu hg true (fun _=> .inl ⟨v.fb,h.pos.1,YO _,rfl⟩) (fun c=>nomatch c))
 have V:=Qx (y:=(true,false,bQ (kN v.fb))) G;have L:=Sq hg he true;have ad:=BJ h;rcases h.VC with⟨F,c2,c3⟩|⟨F,c2,c3⟩
 ·
  refine⟨{ s with VZ:=oH s.VZ (true,false,bQ (kN v.fb)) },?_,K,rfl,rfl,.inl ⟨by omega,rfl⟩⟩;unfold lX eF;rw[h.ZH];have A:((2:Int),([(v.fb:Int)]:List Int),([]:List aQ))=kN v.fb:=rfl;rw[A,L _ _ _ _ _ _ _ _ _ _ _ _ _ _ _ _ _ _ _ _ _ _ G,cM];have H:cm .lss s.VA (0:Int)=true:=by rw[cl];exact C9 (by omega)
  simp only[ZV,pF,cM,H,XG]
 ·have H:cm .lss s.VA (0:Int)=false:=by rw[cl];exact c8 (by omega)
  have B:s.VC=(s.VA,(v.q:Int),s.VC.2.2):=by rw[<-c2,<-c3]
  have X:∀(C:PS) (m:Fm),Inv v now snaps C->C.VA=s.VA->C.VC=(s.VA,(v.q:Int),[m])->E6 m->
    ∃s3,s3={ C with VZ:=oH C.VZ (true,false,bQ (WH s.VA v.q m)) }/\Inv v now snaps s3:=by
   intro C m hi D e4 u;refine⟨_,rfl,hi.push (Eu (E9 u (by omega) (by omega)) true (fun _=>?_) (fun c=>nomatch c))⟩;have:=Ox hi (by rw[D];exact F) (m:=m) (by rw[e4]) u;rw[D] at this;exact this
  have ax:∀(m:Fm) (k:List (Bool×Bool×List Int)->Option ((Option Int)×(Int×Int×(List (Int×(List Int)×(List aQ))))×Int×(List Int)×(List (Bool×Bool×(List Int))))) (b0 b1 b2 b3 b4 b5 b6 b7 b8 b9 WN WL WT WI WQ WK WO XD XC XB XA) (E:List (Bool×Bool×List Int)),E.length<=64->E6 m->
    lp (β:=(List (Bool×Bool×(List Int)))) (fun (I:Int×(List (Bool×Bool×(List Int))))=>
      bif (cm .lss I.1 (([bQ (WH s.VA v.q m)]:List (List Int)).length:Int)) then
       (Sw.idx [bQ (WH s.VA v.q m)] I.1).bind fun ab=>
        (GN ab).bind fun _=>
         (eE true (false,ab) b0 b1 b2 b3 b4 b5 b6 b7 b8 b9 WN WL WT WI WQ WK WO I.2 XD XC XB XA).bind fun wh=>
          some (.next ((ar .add .i64 I.1 (1:Int)),wh))
      else
       some (.done (.WB I.2))
      ) ((0:Int),E) k=k (oH E (true,false,bQ (WH s.VA v.q m))):=by
   intro m k b0 b1 b2 b3 b4 b5 b6 b7 b8 b9 WN WL WT WI WQ WK WO XD XC XB XA E iu u;have ac:=E9 u (S:=s.VA) (q:=v.q) (by omega) (by omega);obtain⟨p1,p2⟩:=o5 ac;have YS:GN (bQ (WH s.VA v.q m))=some ():=by
    unfold GN;cases hp:bQ (WH s.VA v.q m) with
    |nil=>exact absurd hp p1
    |cons a l=>rfl
   unfold lp;rw[show fJ=1125899906842622+1+1 from rfl,Go.WM.o6 (y:=((1:Int),oH E (true,false,bQ (WH s.VA v.q m)))),Go.WM.j7 (b:= .WB (oH E (true,false,bQ (WH s.VA v.q m))))]
   ·rfl
   ·have:Sw.idx [bQ (WH s.VA v.q m)] (0:Int)=some (bQ (WH s.VA v.q m)):=rfl;simp only[cl,aCw];rw[C9 (by omega),XG,this,cM,YS,cM,Ic _ _ _ _ _ _ _ _ _ _ _ _ _ _ _ _ _ _ _ _ _ _ _ _ iu,cM];rfl
  have aa:∀m,E6 m->pB (s.VA,(v.q:Int),[m])=some ([bQ (WH s.VA v.q m)],none):=by
   intro m u;have P:=mZ (S:=s.VA) (q:=(v.q:Int)) (l:=[m]) (by omega) (by omega) (by simp) (fun f N=>by simp at N;subst N;exact u.load);rw[Nn P (by omega) u.load u.YN];have:Go.WM.WH (s.VA,(v.q:Int),[m]) 0 m=WH s.VA v.q m:=by unfold Go.WM.WH WH;simp
   rw[this]
  rcases h.queue with⟨z,d2⟩|⟨m,z,d2,O,d4⟩
  ·
   rw[z] at B;by_cases M:s.sent<v.h
   ·
    obtain⟨m,n1,T⟩:=MX h.ep h.n0 h.n1 h.hs (by omega) h.bok (fun j l hl=>by have:=h.WD _ (Ia hl);simpa using this) h.last (k:=s.sent) ⟨h.sent.1,M⟩;have u:E6 m:=by
     have:=h.sent;by_cases c:s.sent= -1
     ·have:=T 0 (by omega) (by omega) (.inl c);exact⟨this.load,this.YN⟩
     ·have:=T s.sent (by omega) (by omega) (.inr rfl);exact⟨this.load,this.YN⟩
    have h2:=DW K F z M u T;obtain⟨s3,D,U⟩:=X _ m h2 rfl rfl u;subst D;refine⟨_,?_,U,rfl,rfl,.inr (.inr ⟨F,m,rfl,u,fun _=>rfl,rfl⟩)⟩;unfold lX eF;rw[h.ZH];have A:((2:Int),([(v.fb:Int)]:List Int),([]:List aQ))=kN v.fb:=rfl;rw[A,L _ _ _ _ _ _ _ _ _ _ _ _ _ _ _ _ _ _ _ _ _ _ G,cM];have Q:cm .lss s.sent s.XV=true:=by rw[cl,h.enum];exact C9 M
    have R:cm .eql (s.VC.2.2.length:Int) (0:Int)=true:=by rw[z];rfl
    simp only[ZV,pF,cM,H,Q,R,XG,jp];rw[h.efn,h.enum,n1,cM,B,Jg (by omega) (by omega) u.load,cM];simp only[ZV,pF];rw[d2,VD _ _ (by simp),cM];rw[aa m u,cM];simp only[];rw[ax m _ _ _ _ _ _ _ _ _ _ _ _ _ _ _ _ _ _ _ _ _ _ _ V u];simp only[cM,Y7]
   ·refine⟨{ s with VZ:=oH s.VZ (true,false,bQ (kN v.fb)) },?_,K,rfl,rfl,.inr (.inl ⟨F,z,by have:=h.sent;simp only;omega,rfl⟩)⟩;unfold lX eF;rw[h.ZH];have A:((2:Int),([(v.fb:Int)]:List Int),([]:List aQ))=kN v.fb:=rfl;rw[A,L _ _ _ _ _ _ _ _ _ _ _ _ _ _ _ _ _ _ _ _ _ _ G,cM];have Q:cm .lss s.sent s.XV=false:=by rw[cl,h.enum];exact c8 M
    simp only[ZV,pF,cM,H,Q,XG,jp];have P:=mZ (S:=s.VA) (q:=(v.q:Int)) (l:=[]) (by omega) (by omega) (by simp) (fun f N=>by simp at N);rw[B,Jf P,cM];simp only[];unfold lp;rw[show fJ=1125899906842623+1 from rfl,Go.WM.j7 (b:= .WB (oH s.VZ (true,false,bQ (kN v.fb))))]
    ·simp only[cM]
    ·rfl
  ·rw[z] at B;obtain⟨s3,D,U⟩:=X _ m K rfl B O;subst D;refine⟨_,?_,U,rfl,rfl,.inr (.inr ⟨F,m,z,O,fun c=>(by rw[z] at c;cases c),rfl⟩)⟩;unfold lX eF;rw[h.ZH];have A:((2:Int),([(v.fb:Int)]:List Int),([]:List aQ))=kN v.fb:=rfl;rw[A,L _ _ _ _ _ _ _ _ _ _ _ _ _ _ _ _ _ _ _ _ _ _ G,cM];have R:(bif (cm .lss s.sent s.XV) then some (cm .eql (s.VC.2.2.length:Int) (0:Int)) else some false)=some false:=by
    rw[z];cases cm .lss s.sent s.XV<;>rfl
   simp only[ZV,pF,cM,H];rw[R,cM];simp only[pF,jp];rw[B,aa m O,cM];simp only[];rw[ax m _ _ _ _ _ _ _ _ _ _ _ _ _ _ _ _ _ _ _ _ _ _ _ V O];simp only[cM]
end Go.WU
namespace Go.WU
open Go Go.Sw Go.Mo Go.Pl
open Go.YL (oD xP)
open Go.WM (Good bQ eZ dM dT qP)
variable {v:Nm}{now:List aQ}{snaps:List (List aQ)}{s:PS}
theorem IX{g o:Nat}(hg:g<=3000)(ho:o<=3000):ar .or .i64 (sh .shl .i64 (g:Int) (12:Int)) (o:Int)=pX g o:=by
 have h:sh .shl .i64 (g:Int) (12:Int)=((g*2 ^ 12:Nat):Int):=by
  show IntKind.wrap .i64 ((g:Int)*2 ^ min ((12:Nat):Int).toNat 64)=_;rw[m6,px (by omega)];have e:(g:Int)*2 ^ 12=((g*2 ^ 12:Nat):Int):=by omega
  rw[e,wrap_i64 (by omega)]
 rw[h,Go.YL.orI (by omega) (by omega),Go.YL.orP (by omega)];unfold pX;rfl
theorem DX(h:Inv v now snaps s){g:Nat}(h1:1<=g)(h2:g<=v.fb)(h3:s.first<g):Inv { v with x:=0 } now snaps { s with first:=(g:Int),receiver:=(pX g v.ob,0) }:=by
 have l3:=h.C2;have K:∀S,sZ v s S->S≠pX g v.ob:=by
  rintro S ⟨C,o,G,M,N,O,P,H⟩ e;rw[G] at e;obtain⟨e1,T⟩:=sT (by omega) (by omega) e;have:=H T;omega
 have L:∀S,sZ v s S->sZ { v with x:=0 } { s with first:=(g:Int),receiver:=(pX g v.ob,0) } S:=by
  rintro S ⟨C,o,G,M,N,O,P,H⟩;exact⟨C,o,G,M,N,O,P,fun e=>by have:=H e;simp only;omega⟩
 exact { h with
  C2:=by simp only;omega
  idle:=fun _ _=>rfl
  VA:=by
   rcases h.VA with c |⟨o,c1,c2,c3,I⟩
   ·exact .inl c
   ·exact .inr ⟨o,c1,c2,c3,fun e=>by have:=I e;simp only;omega⟩
  first:= .inr ⟨g,h1,h2,rfl,rfl⟩
  act:=fun E=>by
   simp only at E;rcases h.VA with c |⟨o,c1,c2,c3,I⟩
   ·have:=yU v.fb v.ob;omega
   ·rw[c3] at E;have:=I (sT (by omega) (by omega) E).2;omega
  VZ:=fun y u=>by
   have u:=h.VZ y u;refine⟨u.bytes,u.len,u.ne,u.F1,fun R=>?_⟩;obtain⟨f,U,V,X,g4⟩:=u.whole R;refine⟨f,U,V,fun F=>?_,fun F=>?_⟩
   ·rcases X F with c |⟨S,q,m',B,z,A,D,Q⟩
    ·exact .inl c
    ·exact .inr ⟨S,q,m',B,z,L S A,D,fun _ c=>absurd c (K S A)⟩
   ·rcases g4 F with⟨C,o,j,t,B,z,A,D,Q,a6,a7,a8⟩|⟨S,a,B,z,A,D⟩
    ·refine .inl ⟨C,o,j,t,B,z,A,D,Q,a6,a7,fun c d e=>?_⟩;have:=(a8 c d e).2.1;omega
    ·exact .inr ⟨S,a,B,L S z,A,fun _ c=>absurd c (K S z)⟩}
theorem Sr{g o j:Nat}{t:List Int}(hg:g<=2147483647)(ho:o<=2147483647)(hj:j<=2147483647){x y:Int}(ht:t=[x,y])(hx:0<=x/\x<=2147483647)(hy:0<=y/\y<=2147483647):dT (fD g o j t)=0/\Good (fD g o j t):=by
 subst ht
 have u:dM (fD g o j [x,y])=0:=Ln (by unfold fD;simp only;omega) (by unfold fD;simp) (by unfold fD;simp) (fun n h=>by
  simp only[fD,ek,Y7,m5,aCs,aEt] at h
  rcases h with rfl | rfl | rfl | rfl | rfl<;>omega)
 have:=(Go.WM.j8 u).1;exact⟨this,qP this (fun b z=>by simp[fD] at z)⟩
theorem Fo(h:Inv v now snaps s){g:Nat}(h1:1<=g)(h2:g<=v.fb)(h3:s.first=g){t:List Int}(ht:jX (snaps.getD v.k [])=some t):Hz v snaps s (fD g v.ob v.k t):=by
 have:=h.pos;exact .inl ⟨g,v.ob,v.k,t,rfl,h1,h2,h.pos.2,YO _,YO _,ht,fun c _ e=>⟨rfl,by rw[h3,c],h.idle (by rw[h3,c]) (by rw[c] at e;exact e)⟩⟩
theorem Ji(h:Inv v now snaps s)(h0:0<=s.first)(hs:s.VA=s.receiver.1):s.VA=pX v.fb v.ob:=by
 have B:=h.C2;rcases h.first with⟨A,_⟩|⟨g,A,C,D,u⟩
 ·omega
 ·rcases h.VA with c |⟨o,E,F,z,G⟩
  ·rw[u] at hs;have:=yU g v.ob;simp only at hs;omega
  ·rw[u,z] at hs;rw[z,(sT (by omega) (by omega) hs).2]
theorem BK(h:Inv v now snaps s)(h0:0<=s.first)(ha:sZ v s s.receiver.1):Hz v snaps s (Ad s.receiver.1 v.x):=by
 refine .inr ⟨_,v.x,rfl,ha,fun c=>?_,fun _ _=>YO _⟩;rcases h.act (Ji h h0 c.symm) with⟨u,_⟩|⟨u,z,A⟩
 ·exact .inl (by omega)
 ·exact .inr ⟨u,z,by omega⟩
theorem IY(h:Inv v now snaps s)(hx:v.x+1<=100000)(h0:0<=s.first)(ha:sZ v s s.receiver.1){to:Nat}(WZ:v.k<to)(hle:to<=v.h){d':(List aQ)×(List (Int×aQ))×Int}(hd:oD d' (snaps.getD to []) to v.ob)
  (hq:s.VA=s.receiver.1->v.x=v.q/\s.VC.2.2≠ []/\s.sent=to):
  Inv { v with k:=to,x:=v.x+1 } now snaps { s with XU:=(to:Int),receiver:=(s.receiver.1,((v.x+1:Nat):Int)),m8:=(v.n:Int),od:=d' }:=by
 have l3:=h.C2;have fj:=h.safe;have Q:s.VA=pX v.fb v.ob->s.VA=s.receiver.1:=by
  intro e;rcases h.VA with c |⟨o,O,P,K,c4⟩
  ·have:=yU v.fb v.ob;omega
  ·rw[K] at e;have F:=(sT (by omega) (by omega) e).2;rcases h.first with⟨z,_⟩|⟨g,z,G,H,d4⟩
   ·omega
   ·have:=c4 F;have u:g=v.fb:=by omega
    rw[d4,K,u,F]
 exact { h with
  C2:=by simp only;omega
  W8:=rfl
  kh:=hle
  F9:=hd
  nt:=rfl
  safe:=by simp only;omega
  idle:=fun c d=>by
   obtain⟨M,o,C,R,T,U,D,V⟩:=ha;rcases h.first with⟨z,_⟩|⟨g,z,G,H,d4⟩
   ·omega
   ·simp only at c d;have u:g=v.fb:=by omega
    rw[d4,u] at C;obtain⟨X,F⟩:=sT (by omega) (by omega) C;rw[d4,u] at D;simp only at D;omega
  first:=by
   rcases h.first with⟨z,_⟩|⟨g,z,G,H,d4⟩
   ·omega
   ·exact .inr ⟨g,z,G,H,by simp only;rw[d4]⟩
  act:=fun e=>by
   obtain⟨a1,a2,B⟩:=hq (Q e);exact .inr ⟨by simp only;omega,a2,B⟩
  VZ:=fun y A=>by
   have A:=h.VZ y A;refine⟨A.bytes,A.len,A.ne,A.F1,fun u=>?_⟩;obtain⟨f,g1,N,g3,g4⟩:=A.whole u;refine⟨f,g1,N,fun I=>?_,fun I=>?_⟩
   ·rcases g3 I with c |⟨S,q,m',a1,a2,B,E,L⟩
    ·exact .inl c
    ·refine .inr ⟨S,q,m',a1,a2,B,E,fun c d=>?_⟩;have:=(L c d).1;exact⟨by simp only;omega,fun e=>by simp only at e;omega⟩
   ·rcases g4 I with⟨M,o,j,t,a1,a2,B,E,L,a6,a7,a8⟩|⟨S,a,a1,a2,B,E⟩
    ·refine .inl ⟨M,o,j,t,a1,a2,B,E,L,by simp only;omega,a7,fun c d e=>?_⟩;have hf:=(a8 c d e).2.1;obtain⟨N,o2,C,R,T,U,D,V⟩:=ha;rcases h.first with⟨z,_⟩|⟨g,z,G,H,d4⟩
     ·omega
     ·simp only at c d e;have u:g=v.fb:=by omega
      rw[d4,u] at C;obtain⟨X,F⟩:=sT (by omega) (by omega) C;rw[d4,u] at D;simp only at D;rw[c,d] at e;omega
    ·refine .inr ⟨S,a,a1,a2,fun c=>?_,fun c d=>by have:=E c d;simp only;omega⟩;rcases B c with c |⟨O,P,K⟩
     ·exact .inl c
     ·exact .inr ⟨O,P,by simp only;omega⟩}
end Go.WU
namespace Go.WU
open Go Go.Sw Go.Mo Go.Pl
open Go.YL (oD xP)
open Go.WM (Good bQ eZ dM dT qP Ht Nl qF kE)
variable {v:Nm}{now:List aQ}{snaps:List (List aQ)}{s:PS}
theorem DY(dir:Bool)(b:List Int)(b0 b1 b2 b3 b4 b5 b6 b7 b8 b9 WN WL WT WI WQ WK WO WG XD XC XB XA):
  eE dir (true,b) b0 b1 b2 b3 b4 b5 b6 b7 b8 b9 WN WL WT WI WQ WK WO WG XD XC XB XA=some WG:=rfl
theorem Kn(h:Inv v now snaps s)(h0:0<=s.first):(0<=s.receiver.1/\s.receiver.1<=2147483647)/\s.receiver.2=v.x:=by
 have A:=h.C2;rcases h.first with⟨u,_⟩|⟨g,u,B,C,z⟩
 ·omega
 ·rw[z];refine⟨?_,rfl⟩;show 0<=pX g v.ob/\pX g v.ob<=2147483647;unfold pX;omega
theorem Nr(b:List Int)(u:Fm)(e:Option Int)(hu:fM b=some (u,e))(hn:e.isSome=true\/u.1≠2)
  (hr:0<=s.first->∃fr,nZ s.receiver b=some (s.receiver,fr,false,(true,[]),none)):eB b s=some (none,s):=by
 unfold eB cO;have A:(bif Option.isNone e then bif cm .eql u.1 (2:Int) then some (cm .eql (u.2.1.length:Int) (1:Int)) else some false else some false)=some false:=by
  rcases hn with c | c
  ·cases e with
   |none=>cases c
   |some e=>rfl
  ·have:cm .eql u.1 (2:Int)=false:=by rw[ce];exact c8 c
   rw[this];cases e<;>rfl
 rw[hu,cM];simp only[];rw[A,cM];simp only[pF];by_cases z:s.first<0
 ·have h:cm .lss s.first (0:Int)=true:=by rw[cl];exact C9 z
  rw[h];simp only[XG,cM]
 ·have h:cm .lss s.first (0:Int)=false:=by rw[cl];exact c8 z
  obtain⟨fr,hr⟩:=hr (by omega);rw[h,hr];simp only[pF,cM,ZV,jp,DY]
def NB(v:Nm)(snaps:List (List aQ))(s s':PS)(x':Nat):Prop:=s'.first=v.fb/\s'.VA=s.VA/\s'.VC=s.VC/\s'.sent=s.sent/\s'.safe=s.safe/\(s.first=v.fb->x'=v.x)/\
 ∃x y,jX (snaps.getD v.k [])=some [x,y]/\s'.VZ=oH s.VZ (false,false,bQ (fD v.fb v.ob v.k [x,y]))
theorem DZ(h:Inv v now snaps s){b:List Int}{g:Nat}(h1:1<=g)(h2:g<=v.fb)(hu:fM b=some (kN g,none)):
  ∃x' s',x'<=v.x/\eB b s=some (none,s')/\Inv { v with x:=x' } now snaps s'/\Sp s s'/\(g=v.fb->NB v snaps s s' x'):=by
 have R:=h.C2;have S:=h.kh;have T:=h.hs;have U:=h.n1;have V:=h.n0;have H:snaps.getD v.k []∈snaps:=by
  rw[O4,D3 (by omega)];exact ei _
 have M:(snaps.getD v.k []).length=v.n:=h.ep.len _ H;have A:=xP h.F9;rw[M,<-h.nt] at A;obtain⟨x,y,u,O,P⟩:=IS (bs:=snaps.getD v.k []) (by omega) (by omega) (h.bok _ H);obtain⟨L,D⟩:=Sr (g:=g) (o:=v.ob) (j:=v.k) (t:=[x,y]) (by omega) (by omega) (by omega) rfl O P;have I:((3:Int),([(g:Int),(v.ob:Int),(v.k:Int)]++[x,y]:List Int),([]:List aQ))=fD g v.ob v.k [x,y]:=rfl;have E:Sw.idx (kN g).2.1 (0:Int)=some (g:Int):=rfl;have F:cm .eql (kN g).1 (2:Int)=true:=rfl;have G:cm .eql ((kN g).2.1.length:Int) (1:Int)=true:=rfl;by_cases N:s.first<g
 ·have K:=DX h h1 h2 N;refine⟨0,{ s with first:=(g:Int),receiver:=(pX g v.ob,0),VZ:=oH s.VZ (false,false,bQ (fD g v.ob v.k [x,y])) },by omega,?_,K.push (Eu D false (fun c=>nomatch c) (fun _=>Fo K h1 h2 rfl u)),.inr ⟨_,rfl⟩,fun e=>by subst e;exact⟨rfl,rfl,rfl,rfl,rfl,fun c=>by omega,x,y,u,rfl⟩⟩;unfold eB cO;have B:cm .gtr (g:Int) s.first=true:=by rw[cg];exact C9 (by omega)
  have z:cm .lss (g:Int) (g:Int)=false:=by rw[cl];exact c8 (by omega)
  rw[hu,cM];simp only[fx,XG,F,G,cM,E,B,jp];rw[A,cM];simp only[ZV,pF,cM,z];rw[u,cM,VD _ _ (by simp),cM,h.T4,h.W8,IX (by omega) (by omega),I,Sq D L _ _ _ _ _ _ _ _ _ _ _ _ _ _ _ _ _ _ _ _ _ _ _ h.M1];rfl
 ·have B:cm .gtr (g:Int) s.first=false:=by rw[cg];exact c8 (by omega)
  by_cases C:s.first=g
  ·refine⟨v.x,{ s with VZ:=oH s.VZ (false,false,bQ (fD g v.ob v.k [x,y])) },YO _,?_,h.push (Eu D false (fun c=>nomatch c) (fun _=>Fo h h1 h2 C u)),.inr ⟨_,rfl⟩,fun e=>by subst e;exact⟨C,rfl,rfl,rfl,rfl,fun _=>rfl,x,y,u,rfl⟩⟩;unfold eB cO;have z:cm .lss (g:Int) s.first=false:=by rw[cl];exact c8 (by omega)
   rw[hu,cM];simp only[fx,XG,F,G,cM,E,B,jp,pF];rw[A,cM];simp only[ZV,pF,cM,z];rw[u,cM,VD _ _ (by simp),cM,h.T4,h.W8,C,I,Sq D L _ _ _ _ _ _ _ _ _ _ _ _ _ _ _ _ _ _ _ _ _ _ _ h.M1];rw[<-C,<-h.W8];rfl
  ·refine⟨v.x,s,YO _,?_,h,.inl rfl,fun e=>by exfalso;rcases h.first with⟨Q,_⟩|⟨X,Q,d2,d3,_⟩<;>omega⟩;unfold eB cO;have z:cm .lss (g:Int) s.first=true:=by rw[cl];exact C9 (by omega)
   rw[hu,cM];simp only[fx,XG,F,G,cM,E,B,jp,pF];rw[A,cM];simp only[ZV,pF,cM,z,XG]
def PX(v:Nm)(s s':PS)(k' x':Nat)(S:Int)(q:Nat):Prop:=(S≠s.receiver.1->s'=s/\k'=v.k/\x'=v.x)/\
 (0<=s.first->S=s.receiver.1->S=s.VA->q=v.q->x'=v.q+1/\s'.first=s.first/\s'.VA=s.VA/\s'.VC=s.VC/\s'.sent=s.sent/\s'.safe=s.safe/\s'.VZ=oH s.VZ (false,false,bQ (Ad S (v.q+1))))
theorem IZ(h:Inv v now snaps s)(fp:v.x+1<=100000){b:List Int}(hb:Bytes b)(P8:b.length<=2000){S:Int}{q:Nat}{m:Fm}(hf:eZ b=some (WH S q m))(hm:E6 m)(ha:sZ v s S)
  (hs:S=s.VA->q<v.q\/(q=v.q/\s.VC.2.2=[m])) (hr:0<=s.first->S=s.receiver.1->q<=v.x/\(q=v.x->∃to,q8 v.n snaps v.k to m)):
  ∃k' x' s',v.k<=k'/\x'<=v.x+1/\eB b s=some (none,s')/\Inv { v with k:=k',x:=x' } now snaps s'/\Sp s s'/\PX v s s' k' x' S q:=by
 have l3:=h.C2;have pf:=h.kh;have ZF:=h.hs;have U:=h.n1;have V:=h.n0;have B:=qF b hb (by omega);rw[hf] at B;simp only at B;by_cases X:s.first<0
 ·exact⟨v.k,v.x,s,YO _,by omega,Nr b _ none B (.inr (by unfold WH;simp)) (fun c=>by omega),h,.inl rfl,fun _=>⟨rfl,rfl,rfl⟩,fun c=>absurd c (by omega)⟩
 ·obtain⟨ah,ai⟩:=Kn h (by omega);have A:=Nl s.receiver b hb P8 ah (by omega);rw[hf] at A;by_cases u:S=s.receiver.1
  ·obtain⟨aq,A5⟩:=hr (by omega) u;have aa:=(Go.WM.j8 hm.load);have ab:=qP aa.1 hm.YN;have ac:=ab.s1;have E:(WH S q m).1=1/\3<=(WH S q m).2.1.length/\(WH S q m).2.1.getD 0 0=s.receiver.1/\(WH S q m).2.1.getD 2 0<=15:=by
    refine⟨rfl,by unfold WH;simp,u,ac⟩
   have ad:(WH S q m).2.1.getD 1 0=q:=rfl;have ae:((WH S q m).2.1.getD 2 0,(WH S q m).2.1.drop 3,(WH S q m).2.2)=m:=rfl;unfold Ht at A;simp only[WJ E,ad,ae] at A;have I:cm .eql (WH S q m).1 (2:Int)=false:=rfl;have K:cm .lss s.first (0:Int)=false:=by rw[cl];exact c8 X
   have L:∀a:Nat,a<=2147483647->Good (Ad s.receiver.1 a):=fun a W6=>by
    refine⟨by unfold Ad;simp,by unfold Ad;simp,by unfold Ad;simp,by unfold Ad;simp,fun n P=>?_,fun b hb=>by simp[Ad] at hb⟩;simp only[Ad,m5,aCs,aEt] at P;rcases P with rfl | rfl<;>omega
   by_cases M:(q:Int)=s.receiver.2/\s.receiver.2<2147483647
   ·rw[WJ M] at A;simp only at A;have N:q=v.x:=by omega
    obtain⟨to,C⟩:∃to,q8 v.n snaps v.k to m/\(s.VA=s.receiver.1->v.x=v.q/\s.VC.2.2≠ []/\s.sent=to):=by
     by_cases c:s.VA=s.receiver.1
     ·rcases h.act (Ji h (by omega) c) with⟨D,a2,T⟩|⟨D,a2,T⟩
      ·rcases hs (by rw[u,c]) with d |⟨d1,H⟩
       ·omega
       ·exact⟨s.sent,T m H,fun _=>⟨D,by rw[H];simp,rfl⟩⟩
      ·rcases hs (by rw[u,c]) with d |⟨d1,H⟩<;>omega
     ·obtain⟨to,e⟩:=A5 N;exact⟨to,e,fun d=>absurd d c⟩
    obtain⟨C,aj⟩:=C;have WZ:=C.lt;have am:=C.le;have an:=C.nn;let s1:PS:={ s with receiver:=(s.receiver.1,s.receiver.2+1) }
    obtain⟨d',sd,et⟩:=MV (s:=s1) (snaps:=snaps) (n:=v.n) h.F9 rfl V U h.ep.len h.W8 (by omega) (by omega) h.T4 (by omega) h.eon h.nt C;have O:s.receiver.2+1=((v.x+1:Nat):Int):=by omega
    have F:=IY h fp (by omega) (by rw[<-u];exact ha) (to:=to.toNat) (by omega) (by omega) sd (fun c=>by obtain⟨c1,c2,c3⟩:=aj c;exact⟨c1,c2,by omega⟩);have af:((to.toNat:Nat):Int)=to:=by omega
    rw[af,<-O] at F
    have G:=BK F (by simp only;omega) (by
     obtain⟨g,o,Q,b2,b3,b4,R,b6⟩:=ha;rw[u] at Q R
     exact⟨g,o,Q,b2,b3,b4,R,b6⟩)
    refine⟨to.toNat,v.x+1,_,by omega,YO _,?_,F.push (Eu (L (v.x+1) (by omega)) false (fun c=>nomatch c) (fun _=>G)),.inr ⟨_,rfl⟩,fun c=>absurd u c,fun _ _ _ e=>⟨by omega,rfl,rfl,rfl,rfl,rfl,by rw[u,<-e,N]⟩⟩;unfold sA at et;unfold eB cO;rw[B,cM];simp only[fx,XG,I,cM,pF,K];rw[A,cM];simp only[ZV,pF,XG,jp];cases hz:fC m s.n s.fn s.XV s.WS s.blocks s.VL s.WD s.VA s.VC s.sent s.safe s.VI s.on s.XU s.VW s.first (s.receiver.1,s.receiver.2+1) s.VZ s.p7 s.fd s.m8 s.od with
    |none=>simp only[s1] at et;rw[hz] at et;cases et
    |some z=>
     simp only[s1] at et;rw[hz,cM] at et;simp only[A7,ak,PS.mk.injEq] at et;rw[cM];simp only[et,ZV,pF];rw[Ic _ _ _ _ _ _ _ _ _ _ _ _ _ _ _ _ _ _ _ _ _ _ _ _ h.M1];simp only[cM,O];rfl
   ·have ap:¬q=v.x:=by omega
    rw[WA M] at A;simp only at A;have G:=BK h (by omega) (by rw[<-u];exact ha);refine⟨v.k,v.x,_,YO _,by omega,?_,h.push (Eu (L v.x (by omega)) false (fun c=>nomatch c) (fun _=>G)),.inr ⟨_,rfl⟩,fun c=>absurd u c,fun _ _ c e=>(fun (z:v.x=v.q+1)=>⟨z,rfl,rfl,rfl,rfl,rfl,by rw[u,<-z]⟩) (by rcases h.act (Ji h (by omega) (by rw[<-c,u])) with⟨D,_⟩|⟨D,_⟩<;>omega)⟩;unfold eB cO;rw[B,cM];simp only[fx,XG,I,cM,pF,K];rw[A,cM];simp only[ZV,pF,jp];rw[Ic _ _ _ _ _ _ _ _ _ _ _ _ _ _ _ _ _ _ _ _ _ _ _ _ h.M1];simp only[cM,ai];rfl
  ·refine⟨v.k,v.x,s,YO _,by omega,Nr b _ none B (.inr (by unfold WH;simp)) (fun _=>⟨(0,[],[]),?_⟩),h,.inl rfl,fun _=>⟨rfl,rfl,rfl⟩,fun _ c=>absurd c u⟩;rw[A];have E:¬((WH S q m).1=1/\3<=(WH S q m).2.1.length/\(WH S q m).2.1.getD 0 0=s.receiver.1/\(WH S q m).2.1.getD 2 0<=15):=fun c=>u c.2.2.1;unfold Ht;simp only[WA E]
theorem Vx(h:Inv v now snaps s)(fp:v.x+1<=100000){y:Bool×Bool×List Int}(hy:q9 v snaps s y)(hd:y.1=true):
  ∃k' x' s',v.k<=k'/\x'<=v.x+1/\eB y.2.2 s=some (none,s')/\Inv { v with k:=k',x:=x' } now snaps s'/\Sp s s':=by
 have E:=hy.len;have u:=qF y.2.2 hy.bytes (by omega);by_cases z:y.2.1=true
 ·rw[hy.F1 z] at u;refine⟨v.k,v.x,s,YO _,by omega,Nr _ _ _ u (.inl rfl) (fun H=>⟨(0,[],[]),?_⟩),h,.inl rfl⟩;obtain⟨I,U⟩:=Kn h H;have T:=h.C2;rw[Nl s.receiver _ hy.bytes E I (by omega),hy.F1 z];rfl
 ·obtain⟨f,K,L,M,_⟩:=hy.whole (by simpa using z);have F:eZ y.2.2=some f:=by rw[L];exact kE K
  rw[F] at u;rcases M hd with⟨g,O,D,rfl⟩|⟨S,q,m,rfl,D,P,Q,R⟩
  ·obtain⟨x',s',G,A,B,C,_⟩:=DZ h O D u;exact⟨v.k,x',s',YO _,by omega,A,B,C⟩
  ·obtain⟨k',x',s',G,A,B,C,N,_⟩:=IZ h fp hy.bytes E F D P Q R;exact⟨k',x',s',G,A,B,C,N⟩
end Go.WU
namespace Go.WU
open Go Go.Sw Go.Mo Go.Pl
open Go.YL (oD xP)
open Go.WM (Good bQ eZ dM dT qP Gk Ac qF kE mZ)
variable {v:Nm}{now:List aQ}{snaps:List (List aQ)}{s:PS}
theorem UP(x y:Int):jD [x,y] [x,y]=some true:=by
 unfold jD;have e:cm .neq (([x,y]:List Int).length:Int) (([x,y]:List Int).length:Int)=false:=by rw[cn];simp
 rw[e,pF];unfold lp;rw[show fJ=1125899906842621+1+1+1 from rfl,Go.WM.o6 (y:=(1:Int)),Go.WM.o6 (y:=(2:Int)),Go.WM.j7 (b:= .WB ())]
 ·rfl
 ·have h:Sw.idx [x,y] (1:Int)=some y:=rfl;have u:cm .neq y y=false:=by rw[cn];simp
  have z:cm .lss (1:Int) (([x,y]:List Int).length:Int)=true:=rfl;rw[z,XG,h,cM,cM,u,pF];rfl
 ·have h:Sw.idx [x,y] (0:Int)=some x:=rfl;have u:cm .neq x x=false:=by rw[cn];simp
  have z:cm .lss (0:Int) (([x,y]:List Int).length:Int)=true:=rfl;rw[z,XG,h,cM,cM,u,pF];rfl
theorem Inv.zu(h:Inv v now snaps s){e}(he:kd v.n e now snaps):Inv v now snaps { s with VL:=e }:=
 { h with
  ep:=he
  VZ:=fun y u=>(h.VZ y u).same rfl rfl rfl rfl rfl }
theorem Qy(h:Inv v now snaps s){o j:Nat}(h1:1<=o)(h2:o<=v.ob)(hj:j<=v.k)(WZ:s.VA<pX v.fb o)
  (ha:o=v.ob->s.VA<pX v.fb o->j=v.k/\s.first=(v.fb:Int)/\v.x=0) {sent:Int} (aOc:sent=j\/(sent= -1/\j<v.h)):
  Inv { v with q:=0 } now snaps { s with VA:=pX v.fb o,VC:=(pX v.fb o,0,[]),sent:=sent,safe:=max s.safe (j:Int),VI:=[] }:=by
 have l3:=h.C2;have pf:=h.kh;have fj:=h.safe;have C:∀S,sZ v s S->S≠pX v.fb o/\sZ { v with q:=0 } { s with VA:=pX v.fb o,VC:=(pX v.fb o,0,[]),sent:=sent,safe:=max s.safe (j:Int),VI:=[] } S:=by
  rintro S ⟨F,G,H,X,b3,b4,M,b6⟩;refine⟨fun e=>?_,F,G,H,X,b3,b4,?_,b6⟩
  ·rw[H] at e;obtain⟨P,Q⟩:=sT (by omega) (by omega) e;rcases M with c |⟨I,K⟩
   ·omega
   ·rw[H,P,Q] at K;omega
  ·rcases M with c |⟨I,K⟩
   ·exact .inl c
   ·exact .inr ⟨I,by simp only;omega⟩
 exact { h with
  C2:=by simp only;omega
  safe:=by simp only;omega
  sent:=by simp only;omega
  low:=fun _=>by simp only;omega
  idle:=fun c d=>h.idle c (by simp only at d;omega)
  VA:= .inr ⟨o,h1,h2,rfl,fun e=>(ha e WZ).2.1⟩
  VC:= .inr ⟨yU _ _,rfl,rfl⟩
  queue:= .inl ⟨rfl,rfl⟩
  act:=fun e=>by
   simp only at e;obtain⟨B,z,A⟩:=ha (sT (by omega) (by omega) e).2 WZ;refine .inl ⟨A,fun _=>?_,fun m N=>by simp at N⟩;simp only;rcases aOc with c |⟨I,K⟩
   ·left;omega
   ·right;omega
  VZ:=fun y u=>by
   have u:=h.VZ y u;refine⟨u.bytes,u.len,u.ne,u.F1,fun O=>?_⟩;obtain⟨f,R,T,U,V⟩:=u.whole O;refine⟨f,R,T,fun E=>?_,fun E=>?_⟩
   ·rcases U E with c |⟨S,q,m',B,z,A,D,L⟩
    ·exact .inl c
    ·exact .inr ⟨S,q,m',B,z,(C S A).2,fun c=>absurd c (C S A).1,L⟩
   ·rcases V E with⟨F,G,j',t',B,z,A,D,L,a6,a7,a8⟩|⟨S,a,B,z,A,D⟩
    ·exact .inl ⟨F,G,j',t',B,z,A,D,L,a6,a7,fun c d e=>a8 c d (by simp only at e;omega)⟩
    ·exact .inr ⟨S,a,B,(C S z).2,fun c=>absurd c (C S z).1,D⟩}
theorem EA(h:Inv v now snaps s)(jh:v.q+1<=100000)(h0:0<=s.VA){m:Fm}(hq:s.VC.2.2=[m])(hk:s.sent<=v.k):
  Inv { v with q:=v.q+1 } now snaps { s with VC:=(s.VA,((v.q+1:Nat):Int),[]),safe:=max s.safe s.sent,VI:=[] }:=by
 have K:=h.C2;have L:=h.kh;have M:=h.safe
 exact { h with
  C2:=by simp only;omega
  safe:=by simp only;omega
  low:=fun _=>by simp only;omega
  VC:= .inr ⟨h0,rfl,rfl⟩
  queue:= .inl ⟨rfl,rfl⟩
  act:=fun e=>by
   rcases h.act e with⟨a1,a2,a3⟩|⟨a1,a2,a3⟩
   ·have:=(a3 m hq).lt;omega
   ·exact .inl ⟨by simp only;omega,fun _=> .inl a3,fun m B=>by simp at B⟩
  VZ:=fun y u=>by
   have u:=h.VZ y u;refine⟨u.bytes,u.len,u.ne,u.F1,fun C=>?_⟩;obtain⟨f,D,E,F,G⟩:=u.whole C;refine⟨f,D,E,fun z=>?_,fun z=>?_⟩
   ·rcases F z with c |⟨S,q,H,a1,a2,a3,A,I⟩
    ·exact .inl c
    ·exact .inr ⟨S,q,H,a1,a2,a3,fun c=> .inl (by have:=A c;simp only;omega),I⟩
   ·rcases G z with c |⟨S,a,a1,a2,a3,A⟩
    ·exact .inl c
    ·exact .inr ⟨S,a,a1,a2,fun c=> .inl (by have:=a3 c;simp only;omega),A⟩}
def Yn(v:Nm)(u:Fm)(e:Option Int):Prop:=e.isSome=true\/u.1≠3\/∃g o j x y,u=fD g o j [x,y]/\g≠v.fb
theorem Qz{u:Fm}{e:Option Int}(h:Yn v u e):(bif (Option.isNone e) then
  bif (cm .eql u.1 (3:Int)) then
   bif (cm .eql (u.2.1.length:Int) (5:Int)) then
    (Sw.idx u.2.1 (0:Int)).bind fun Y1=>
     some (cm .eql Y1 (v.fb:Int))
   else
    some false
  else
   some false
  else
   some false)=some false:=by
 rcases h with c | c |⟨g,o,j,x,y,rfl,D⟩
 ·cases e with
  |none=>cases c
  |some e=>rfl
 ·have:cm .eql u.1 (3:Int)=false:=by rw[ce];exact c8 c
  rw[this];cases e<;>rfl
 ·have z:cm .eql (fD g o j [x,y]).1 (3:Int)=true:=rfl;have A:cm .eql ((fD g o j [x,y]).2.1.length:Int) (5:Int)=true:=rfl;have B:Sw.idx (fD g o j [x,y]).2.1 (0:Int)=some (g:Int):=rfl;have C:cm .eql (g:Int) (v.fb:Int)=false:=by rw[ce];exact c8 (by omega)
  rw[z,A,B,cM,C];cases e<;>rfl
theorem Ie(h:Inv v now snaps s){b:List Int}{u:Fm}{e:Option Int}(hu:fM b=some (u,e))(hn:Yn v u e)
  (hh:0<=s.VA->rY s.VC b=some (s.VC,none)):∃s',eU b s=some (none,s')/\Inv v now snaps s'/\s'.VZ=s.VZ:=by
 have H:=h.C2;have I:=h.safe;have K:=h.kh;have L:s.VL.1=v.h:=by have:=h.ep.num;have:=h.hs;omega
 have A:=Qz hn;by_cases B:s.VA<0
 ·refine⟨s,?_,h,rfl⟩;unfold eU cS;have z:cm .lss s.VA (0:Int)=true:=by rw[cl];exact C9 B
  rw[hu,cM,h.ZH];simp only[];rw[A];simp only[cM,pF,z,XG];rw[<-h.ZH]
 ·obtain⟨F,G⟩:=h.ep.drop (num:=min s.safe s.VL.1) (by omega);refine⟨_,?_,h.zu G,rfl⟩;unfold eU cS;have z:cm .lss s.VA (0:Int)=false:=by rw[cl];exact c8 B
  rw[hu,cM,h.ZH];simp only[];rw[A];simp only[cM,pF,z];rw[hh (by omega)];simp only[cM,ZV,pF];have C:ar .sub .i64 (s.VC.2.2.length:Int) (s.VC.2.2.length:Int)=0:=by rw[L5 (by omega)];omega
  have D:Sw.sub s.VI (0:Int) 0=some []:=by unfold Sw.sub;rw[WJ (by omega)];rfl
  have E:Sw.sub s.VI (0:Int) (s.VI.length:Int)=some s.VI:=by unfold Sw.sub;rw[WJ (by omega)];simp
  rw[C,D,cM];unfold lp;rw[show fJ=1125899906842623+1 from rfl,Go.WM.j7 (b:= .WB s.safe)]
  ·simp only[];rw[E,cM,h.efn,F,cM];rw[<-h.ZH,<-h.efn];rfl
  ·rfl
end Go.WU
namespace Go.WU
open Go Go.Sw Go.Mo Go.Pl
open Go.YL (oD xP)
open Go.WM (Good bQ eZ dM dT qP Gk Ac qF kE mZ jG)
variable {v:Nm}{now:List aQ}{snaps:List (List aQ)}{s:PS}
def SI(v:Nm)(s s':PS)(q' o j:Nat):Prop:=s'.first=s.first/\(s.VA<pX v.fb o->s'.VA=pX v.fb o/\s'.VC.2.2=[])/\(¬s.VA<pX v.fb o->s'=s/\q'=v.q)
theorem Vy(h:Inv v now snaps s){b:List Int}{o j:Nat}{x y:Int}(hu:fM b=some (fD v.fb o j [x,y],none))(h1:1<=o)(h2:o<=v.ob)(hj:j<=v.k)(ht:jX (snaps.getD j [])=some [x,y])
  (ha:o=v.ob->s.VA<pX v.fb o->j=v.k/\s.first=(v.fb:Int)/\v.x=0):∃q' s',q'<=v.q/\eU b s=some (none,s')/\Inv { v with q:=q' } now snaps s'/\s'.VZ=s.VZ/\SI v s s' q' o j:=by
 have M:=h.C2;have N:=h.kh;have A:Sw.idx (fD v.fb o j [x,y]).2.1 (0:Int)=some (v.fb:Int):=rfl;have B:Sw.idx (fD v.fb o j [x,y]).2.1 (1:Int)=some (o:Int):=rfl;have H:Sw.idx (fD v.fb o j [x,y]).2.1 (2:Int)=some (j:Int):=rfl;have C:cm .eql (fD v.fb o j [x,y]).1 (3:Int)=true:=rfl;have D:cm .eql ((fD v.fb o j [x,y]).2.1.length:Int) (5:Int)=true:=rfl;have E:cm .eql (v.fb:Int) (v.fb:Int)=true:=by rw[ce];simp
 have K:Sw.sub (fD v.fb o j [x,y]).2.1 (3:Int) ((fD v.fb o j [x,y]).2.1.length:Int)=some [x,y]:=rfl;have F:=IX (g:=v.fb) (o:=o) (by omega) (by omega);by_cases u:s.VA<pX v.fb o
 ·have z:cm .gtr (pX v.fb o) s.VA=true:=by rw[cg];exact C9 u
  cases hp:fK s.WD (j:Int) with
  |none=>
   have L:j<v.h:=by
    rcases K3 j v.h with c | c
    ·exact c
    ·have:j=v.h:=by omega
     rw[this,h.last] at hp;cases hp
   have G:=Qy h h1 h2 hj u ha (sent:= -1) (.inr ⟨rfl,L⟩);refine⟨0,_,by omega,?_,G,rfl,rfl,fun _=>⟨rfl,rfl⟩,fun c=>absurd u c⟩;unfold eU cS;rw[hu,cM,h.ZH];simp only[fx,XG,C,D,A,B,H,E,cM,F,z,jp,hp,ZV,ve]
  |some l=>
   have I:=h.WD _ (Ia hp);simp only[m6] at I;rw[<-I.2.2] at ht;have G:=Qy h h1 h2 hj u ha (sent:=(j:Int)) (.inl rfl);refine⟨0,_,by omega,?_,G,rfl,rfl,fun _=>⟨rfl,rfl⟩,fun c=>absurd u c⟩;unfold eU cS;rw[hu,cM,h.ZH];simp only[fx,XG,C,D,A,B,H,E,cM,F,z,jp,hp,aCv,lx,pF,yy,ht,K,UP]
 ·have z:cm .gtr (pX v.fb o) s.VA=false:=by rw[cg];exact c8 u
  refine⟨v.q,s,YO _,?_,h,rfl,rfl,fun c=>absurd c u,fun _=>⟨rfl,rfl⟩⟩;unfold eU cS;rw[hu,cM,h.ZH];simp only[fx,XG,C,D,A,B,E,cM,F,z,jp,pF];rw[<-h.ZH]
theorem Jj(h:Inv v now snaps s)(h0:0<=s.VA):jG s.VC=0:=by
 have G:=h.C2;have H:=BJ h;rcases h.VC with⟨B,_⟩|⟨B,C,D⟩
 ·omega
 ·have A:s.VC=(s.VA,(v.q:Int),s.VC.2.2):=by rw[<-C,<-D]
  rw[A];rcases h.queue with⟨z,E⟩|⟨m,z,E,F,I⟩
  ·rw[z];exact mZ (by omega) (by omega) (by simp) (fun f u=>by simp at u)
  ·rw[z];exact mZ (by omega) (by omega) (by simp) (fun f u=>by simp at u;subst u;exact F.load)
theorem NC(h:Inv v now snaps s)(jh:v.q+1<=100000){b:List Int}(hb:Bytes b)(P8:b.length<=2000){S:Int}{a:Nat}(hf:eZ b=some (Ad S a))
  (hs:S=s.VA->a<=v.q\/(a=v.q+1/\s.VC.2.2≠ []/\s.sent<=v.k)):∃q' s',q'<=v.q+1/\eU b s=some (none,s')/\Inv { v with q:=q' } now snaps s'/\s'.VZ=s.VZ/\
   (0<=s.VA->S=s.VA->a=v.q+1->s.VC.2.2.length=1->s'.first=s.first/\s'.VA=s.VA/\s'.VC.2.2=[]/\s'.sent=s.sent):=by
 have l3:=h.C2;have pf:=h.kh;have fj:=h.safe;have z:=qF b hb (by omega);rw[hf] at z;simp only at z;have G:Yn v (Ad S a) none:= .inr (.inl (by unfold Ad;simp));by_cases D:0<=s.VA
 ·have u:=Ac s.VC b hb P8 (Jj h D);rw[hf] at u;unfold Gk at u;by_cases E:(Ad S a).1=0/\(Ad S a).2.2=[]/\(Ad S a).2.1.length=2/\(Ad S a).2.1.getD 0 0=s.VC.1/\s.VC.2.1<(Ad S a).2.1.getD 1 0/\(Ad S a).2.1.getD 1 0 - s.VC.2.1<=min (s.VC.2.2.length:Int) 4
  ·simp only[WJ E] at u;obtain⟨_,_,_,H,O,P⟩:=E;have H:S=s.VC.1:=H;have R:(Ad S a).2.1.getD 1 0=(a:Int):=rfl;rw[R] at O P u;rcases h.VC with⟨L,_⟩|⟨L,F,M⟩
   ·omega
   ·have T:=hs (by rw[H,F]);rw[M] at O P;have I:a=v.q+1/\s.VC.2.2≠ []/\s.sent<=v.k:=by
     rcases T with d | d
     ·omega
     ·exact d
    obtain⟨I,_,aa⟩:=I;rcases h.queue with⟨C,Q⟩|⟨m,C,Q,d3,d4⟩
    ·exact absurd C ‹_›
    ·have N:=EA h jh D C aa;have I0:s.VL.1=v.h:=by have:=h.ep.num;have:=h.hs;omega
     obtain⟨A,B⟩:=N.ep.drop (num:=min (max s.safe s.sent) s.VL.1) (by simp only;omega);refine⟨v.q+1,_,YO _,?_,N.zu B,rfl,fun _ _ _ _=>⟨rfl,rfl,rfl,rfl⟩⟩;have U:(s.VC.1,(a:Int),s.VC.2.2.drop ((a:Int) - s.VC.2.1).toNat)=(s.VA,((v.q+1:Nat):Int),([]:List Fm)):=by
      rw[F,M,C,I];have:(((v.q+1:Nat):Int) - (v.q:Int)).toNat=1:=by omega
      rw[this];rfl
     rw[U] at u;have V:=Qz G;unfold eU cS;have X:cm .lss s.VA (0:Int)=false:=by rw[cl];exact c8 (by omega)
     rw[z,cM,h.ZH];simp only[];rw[V];simp only[cM,pF,X];rw[u];simp only[cM,ZV,pF];rw[C,Q];have ZD:ar .sub .i64 (([m]:List Fm).length:Int) (([]:List Fm).length:Int)=1:=by rw[L5 (by simp)];simp
     have hz:Sw.sub [s.sent] (0:Int) 1=some [s.sent]:=rfl;have C5:Sw.sub [s.sent] (1:Int) (([s.sent]:List Int).length:Int)=some []:=rfl;rw[ZD,hz,cM];unfold lp;rw[show fJ=1125899906842622+1+1 from rfl,Go.WM.o6 (y:=((1:Int),max s.safe s.sent)),Go.WM.j7 (b:= .WB (max s.safe s.sent))]
     ·simp only[];rw[C5,cM,h.efn,A,cM];rw[<-h.ZH,<-h.efn];rfl
     ·rfl
     ·rfl
  ·simp only[WA E] at u;obtain⟨s',A,B,K⟩:=Ie h z G (fun _=>u);refine⟨v.q,s',by omega,A,B,K,fun _ c d e=>absurd ?_ E⟩;rcases h.VC with⟨L,_⟩|⟨L,F,M⟩
   ·omega
   ·refine⟨rfl,rfl,rfl,?_,?_,?_⟩
    ·show S=s.VC.1;rw[F,c]
    ·show s.VC.2.1<(a:Int);omega
    ·show (a:Int) - s.VC.2.1<=_;omega
 ·obtain⟨s',A,B,K⟩:=Ie h z G (fun c=>absurd c D);exact⟨v.q,s',by omega,A,B,K,fun c=>absurd c D⟩
theorem Yo(h:Inv v now snaps s)(jh:v.q+1<=100000){y:Bool×Bool×List Int}(hy:q9 v snaps s y)(hd:y.1=false):
  ∃q' s',q'<=v.q+1/\eU y.2.2 s=some (none,s')/\Inv { v with q:=q' } now snaps s'/\s'.VZ=s.VZ:=by
 have l3:=h.C2;have pf:=h.kh;have ZF:=h.hs;have N9:=h.n1;have iu:=h.n0;have E:=hy.len;have B:=qF y.2.2 hy.bytes (by omega);by_cases K:y.2.1=true
 ·have D:=fun G=>Ac s.VC y.2.2 hy.bytes E (Jj h G);rw[hy.F1 K] at B D;obtain⟨s',C,u,A⟩:=Ie h B (.inl rfl) D;exact⟨v.q,s',by omega,C,u,A⟩
 ·obtain⟨f,Q,R,_,T⟩:=hy.whole (by simpa using K);have F:eZ y.2.2=some f:=by rw[R];exact kE Q
  rcases T hd with⟨g,o,j,t,rfl,V,N,O,X,a6,I,a8⟩|⟨S,a,rfl,V,N,O⟩
  ·have L:snaps.getD j []∈snaps:=by
    rw[O4,D3 (by omega)];exact ei _
   have eg:(snaps.getD j []).length=v.n:=h.ep.len _ L;obtain⟨x,z,U,_,_⟩:=IS (bs:=snaps.getD j []) (by omega) (by omega) (h.bok _ L);have P:t=[x,z]:=by rw[U] at I;exact(pT I).symm
   subst P;rw[F] at B;simp only at B;by_cases M:g=v.fb
   ·subst M;obtain⟨q',s',C,u,A,H,_⟩:=Vy h B O X a6 I (a8 rfl);exact⟨q',s',by omega,u,A,H⟩
   ·obtain⟨s',C,u,A⟩:=Ie h B (.inr (.inr ⟨g,o,j,x,z,rfl,M⟩)) (fun G=>by
     have D:=Ac s.VC y.2.2 hy.bytes E (Jj h G);rw[F] at D;rw[D];unfold Gk;simp only[]
     rw[WA (fun c=>by have:=c.1;simp[fD] at this)])
    exact⟨v.q,s',by omega,C,u,A⟩
  ·obtain⟨q',s',C,u,A,H,_⟩:=NC h jh hy.bytes E F N;exact⟨q',s',C,u,A,H⟩
end Go.WU
namespace Go.WU
open Go Go.Sw Go.Mo Go.Pl
open Go.YL (oD xP)
variable {v:Nm}{now:List aQ}{snaps:List (List aQ)}{s:PS}
def wt(l:List (Bool×Bool×List Int)):Nat:=(l.map fun y=>bif y.1 then 2 else 1).sum
theorem Yp(a b:List (Bool×Bool×List Int)):wt (a++b)=wt a+wt b:=by unfold wt;rw[aCq,List.sum_append]
theorem ND(l:List (Bool×Bool×List Int))(y:Bool×List Int):wt (oH l (false,y))<=wt l+1:=by
 unfold oH;split
 ·rw[Yp];simp[wt]
 ·omega
theorem NF(h:Inv v now snaps s)(jh:v.q+1<=100000)(fp:v.x+1<=100000){y:Bool×Bool×List Int}(hy:q9 v snaps s y):
  ∃k' q' x' s',v.k<=k'/\q'<=v.q+1/\x'<=v.x+1/\uM y s=some (none,s')/\Inv { v with k:=k',q:=q',x:=x' } now snaps s'/\wt s'.VZ<wt s.VZ+(bif y.1 then 2 else 1):=by
 by_cases A:y.1=true
 ·obtain⟨k',x',s',E,C,u,D,B⟩:=Vx h fp hy A;refine⟨k',v.q,x',s',E,by omega,C,?_,D,?_⟩
  rotate_left
  ·rw[A,XG];rcases B with B |⟨z,B⟩
   ·rw[B];omega
   ·rw[B];have:=ND s.VZ z;omega
  unfold eB at u;unfold uM fV;rw[A,XG];cases hz:cO y.2.2 s.n s.fn s.XV s.WS s.blocks s.VL s.WD s.VA s.VC s.sent s.safe s.VI s.on s.XU s.VW s.first s.receiver s.VZ s.p7 s.fd s.m8 s.od with
  |none=>rw[hz] at u;cases u
  |some z=>rw[hz] at u;exact u
 ·have A:y.1=false:=by simpa using A
  obtain⟨q',s',C,u,D,B⟩:=Yo h jh hy A;refine⟨v.k,q',v.x,s',YO _,C,by omega,?_,D,by rw[A,pF,B];omega⟩;unfold eU at u;unfold uM fV;rw[A,pF];cases hz:cS y.2.2 s.n s.fn s.XV s.WS s.blocks s.VL s.WD s.VA s.VC s.sent s.safe s.VI s.on s.XU s.VW s.first s.receiver s.VZ s.p7 s.fd s.m8 s.od with
  |none=>rw[hz] at u;cases u
  |some z=>rw[hz] at u;exact u
theorem Yq(h:Inv v now snaps s)(jh:v.q+1<=100000)(fp:v.x+1<=100000){a:Int}(ha:D5 a):
  ∃k' q' x' s',v.k<=k'/\q'<=v.q+1/\x'<=v.x+1/\mX a s=some (none,s')/\Inv { v with k:=k',q:=q',x:=x' } now snaps s'/\(s.VZ≠ []->wt s'.VZ<wt s.VZ):=by
 rcases Ib h ha with⟨Q,u⟩|⟨i,C,u,R,T⟩
 ·refine⟨v.k,v.q,v.x,s,YO _,by omega,by omega,?_,h,fun c=>absurd Q c⟩;unfold jK at u;unfold mX eX;cases hq:cE a s.n s.fn s.XV s.WS s.blocks s.VL s.WD s.VA s.VC s.sent s.safe s.VI s.on s.XU s.VW s.first s.receiver s.VZ s.p7 s.fd s.m8 s.od with
  |none=>rw[hq] at u;cases u
  |some q=>
   rw[hq] at u;simp only[cM,A7,ak] at u;simp only[cM,u.2.1,ve,XG]
 ·have S:=h.M1;have D:=qO (D3 C);have E:=h.VZ _ (ei C);generalize hy:s.VZ[i]=y at D E
  have F:=h.U2 (l:=s.VZ.take i++s.VZ.drop (i+1)) (by simp;omega) (fun x A=>by
   rcases K9.1 A with A | A
   ·exact h.VZ x (aCo A)
   ·exact h.VZ x (aDq A))
  obtain⟨k',q',x',s',L,M,N,B,O,P⟩:=NF F jh fp (y:=y) (E.same rfl rfl rfl rfl rfl);refine⟨k',q',x',s',L,M,N,?_,O,fun _=>Nat.lt_of_lt_of_eq P ?_⟩
  rotate_left
  ·have e:=X2 i s.VZ;rw[aCy C,hy] at e;have G:=congrArg wt e;have H:wt (y::s.VZ.drop (i+1))=(bif y.1 then 2 else 1)+wt (s.VZ.drop (i+1)):=by unfold wt;simp
   rw[Yp,H] at G;simp only[Yp];omega
  unfold uM at B;unfold mX eX;rw[R,cM];simp only[lx,pF,D,cM];rw[Qw (by omega),cM];have I:ar .add .i64 (i:Int) (1:Int)=((i+1:Nat):Int):=o8 (by omega);have K:cT s.VZ (i:Int) ((i+1:Nat):Int)=some (s.VZ.take i++s.VZ.drop (i+1)):=BI s.VZ i C;rw[I,K,cM];cases hz:fV y s.n s.fn s.XV s.WS s.blocks s.VL s.WD s.VA s.VC s.sent s.safe s.VI s.on s.XU s.VW s.first s.receiver (s.VZ.take i++s.VZ.drop (i+1)) s.p7 s.fd s.m8 s.od with
  |none=>rw[hz] at B;cases B
  |some z=>rw[hz] at B;exact B
theorem BL(h:Inv v now snaps s)(r:Int×aQ×Int×Int×Int×List aQ):uN r s=some ((r.1,r.2.1,(v.h:Int),s.safe,(v.k:Int),snaps.getD v.k []),none,s):=by
 have B:=h.kh;have C:=h.hs;have z:snaps.getD v.k []∈snaps:=by
  rw[O4,D3 (by omega)];exact ei _
 have A:(snaps.getD v.k []).length=v.n:=h.ep.len _ z;have u:=xP h.F9;rw[A,<-h.nt] at u;unfold uN fX;rw[u,h.enum,h.W8];simp only[cM]
end Go.WU
namespace Go.WU
open Go Go.Sw Go.Mo Go.Pl
variable {v v':Nm}{now H2:List aQ}{snaps XW:List (List aQ)}{s s':PS}
def fns(i:Nat)(d:Int×Int×Int×aQ)(s:PS):=wG i d s.n s.fn s.XV s.WS s.blocks s.VL s.WD s.VA s.VC s.sent s.safe s.VI s.on s.XU s.VW s.first s.receiver s.VZ s.p7 s.fd s.m8 s.od
theorem JB(i:Fin 11):uF ((i.1:Nat):Int)=some i.1:=by revert i;decide+kernel
theorem qR{d:Int×Int×Int×aQ}{i:Nat}{YN:aQ}{e:Option Int}(h':Inv v' H2 XW s')(hi:i<11)(hd:d.1=(i:Int))(hf:fns i d s=some (YN,e,WC s')):
  mY d s=some ((e.getD 0,YN,(v'.h:Int),s'.safe,(v'.k:Int),XW.getD v'.k []),none,s'):=by
 have u:=BL h' (e.getD 0,YN,0,0,0,[]);have A:=JB ⟨i,hi⟩;simp only at A;have B:cm .lss d.1 (0:Int)=false:=by rw[cl];exact c8 (by omega)
 have C:cm .geq d.1 (11:Int)=false:=by rw[I2];exact c8 (by omega)
 unfold fns at hf;unfold uN at u;unfold mY hO;rw[B,C];simp only[pF,cM,jp];rw[hd,A,cM,hf,cM];cases hz:fX (e.getD 0,YN,0,0,0,[]) s'.n s'.fn s'.XV s'.WS s'.blocks s'.VL s'.WD s'.VA s'.VC s'.sent s'.safe s'.VI s'.on s'.XU s'.VW s'.first s'.receiver s'.VZ s'.p7 s'.fd s'.m8 s'.od with
 |none=>rw[hz] at u;cases u
 |some z=>
  rw[hz] at u;simp only[cM,A7,ak] at u;obtain⟨D,E⟩:=z;obtain⟨rfl,rfl,_⟩:=u;cases e with
  |none=>
   simp only[aEs] at hz;simp only[WC,ZV,pF,cM,hz,aEs]
  |some c=>
   simp only[yy] at hz;simp only[WC,aCv,XG,lx,pF,cM,yy,hz]
theorem NG{d:Int×Int×Int×aQ}(h:Inv v now snaps s)(hd:d.1<0\/11<=d.1):
  mY d s=some ((3,aS,(v.h:Int),s.safe,(v.k:Int),snaps.getD v.k []),none,s):=by
 have u:=BL h (3,aS,0,0,0,[]);have A:(bif (cm .lss d.1 (0:Int)) then some true else some (cm .geq d.1 (11:Int)))=some true:=by
  rw[cl,I2];by_cases c:d.1<0
  ·rw[C9 c];rfl
  ·rw[c8 c,C9 (by omega)];rfl
 unfold uN at u;unfold mY hO;rw[A];simp only[cM,jp,XG];cases hz:fX (3,aS,0,0,0,[]) s.n s.fn s.XV s.WS s.blocks s.VL s.WD s.VA s.VC s.sent s.safe s.VI s.on s.XU s.VW s.first s.receiver s.VZ s.p7 s.fd s.m8 s.od with
 |none=>rw[hz] at u;cases u
 |some z=>
  rw[hz] at u;simp only[cM,A7,ak] at u;obtain⟨B,C⟩:=z;obtain⟨rfl,rfl,_⟩:=u;rfl
theorem BM{d:Int×Int×Int×aQ}{e:Option Int}(h:lH d.2.1 d.2.2.2 s=some (e,s')):fns 0 d s=some (aS,e,WC s'):=by
 unfold lH at h;unfold fns wG nM;cases hz:eT d.2.1 d.2.2.2 s.n s.fn s.XV s.WS s.blocks s.VL s.WD s.VA s.VC s.sent s.safe s.VI s.on s.XU s.VW s.first s.receiver s.VZ s.p7 s.fd s.m8 s.od with
 |none=>rw[hz] at h;cases h
 |some z=>rw[hz] at h;simp only[cM,A7,ak] at h;obtain⟨u,rfl⟩:=h;rw[<-u];rfl
theorem Vz{d:Int×Int×Int×aQ}{e:Option Int}(h:lH d.2.1 aS s=some (e,s')):fns 1 d s=some (aS,e,WC s'):=by
 unfold lH at h;unfold fns wG nN;cases hz:eT d.2.1 aS s.n s.fn s.XV s.WS s.blocks s.VL s.WD s.VA s.VC s.sent s.safe s.VI s.on s.XU s.VW s.first s.receiver s.VZ s.p7 s.fd s.m8 s.od with
 |none=>rw[hz] at h;cases h
 |some z=>rw[hz] at h;simp only[cM,A7,ak] at h;obtain⟨u,rfl⟩:=h;rw[<-u];rfl
theorem Wa{d:Int×Int×Int×aQ}{e:Option Int}(h:qQ s=some (e,s')):fns 3 d s=some (aS,e,WC s'):=by
 unfold qQ at h;unfold fns wG nP;cases hz:fP s.n s.fn s.XV s.WS s.blocks s.VL s.WD s.VA s.VC s.sent s.safe s.VI s.on s.XU s.VW s.first s.receiver s.VZ s.p7 s.fd s.m8 s.od with
 |none=>rw[hz] at h;cases h
 |some z=>rw[hz] at h;simp only[cM,A7,ak] at h;obtain⟨u,rfl⟩:=h;rw[<-u];rfl
theorem JC{d:Int×Int×Int×aQ}{e:Option Int}(h:lX s=some (e,s')):fns 4 d s=some (aS,e,WC s'):=by
 unfold lX at h;unfold fns wG nQ;cases hz:eF s.n s.fn s.XV s.WS s.blocks s.VL s.WD s.VA s.VC s.sent s.safe s.VI s.on s.XU s.VW s.first s.receiver s.VZ s.p7 s.fd s.m8 s.od with
 |none=>rw[hz] at h;cases h
 |some z=>rw[hz] at h;simp only[cM,A7,ak] at h;obtain⟨u,rfl⟩:=h;rw[<-u];rfl
theorem Wb{d:Int×Int×Int×aQ}{e:Option Int}(h:mX d.2.1 s=some (e,s')):fns 5 d s=some (aS,e,WC s'):=by
 unfold mX at h;unfold fns wG nR;cases hz:eX d.2.1 s.n s.fn s.XV s.WS s.blocks s.VL s.WD s.VA s.VC s.sent s.safe s.VI s.on s.XU s.VW s.first s.receiver s.VZ s.p7 s.fd s.m8 s.od with
 |none=>rw[hz] at h;cases h
 |some z=>rw[hz] at h;simp only[cM,A7,ak] at h;obtain⟨u,rfl⟩:=h;rw[<-u];rfl
theorem JD{d:Int×Int×Int×aQ}{e:Option Int}(h:rF d.2.1 s=some (e,s')):fns 6 d s=some (aS,e,WC s'):=by
 unfold rF at h;unfold fns wG nS;cases hz:fW d.2.1 s.n s.fn s.XV s.WS s.blocks s.VL s.WD s.VA s.VC s.sent s.safe s.VI s.on s.XU s.VW s.first s.receiver s.VZ s.p7 s.fd s.m8 s.od with
 |none=>rw[hz] at h;cases h
 |some z=>rw[hz] at h;simp only[cM,A7,ak] at h;obtain⟨u,rfl⟩:=h;rw[<-u];rfl
theorem Yr{d:Int×Int×Int×aQ}{e:Option Int}(h:lJ d.2.1 s=some (e,s')):fns 7 d s=some (aS,e,WC s'):=by
 unfold lJ at h;unfold fns wG nT;cases hz:eH d.2.1 s.n s.fn s.XV s.WS s.blocks s.VL s.WD s.VA s.VC s.sent s.safe s.VI s.on s.XU s.VW s.first s.receiver s.VZ s.p7 s.fd s.m8 s.od with
 |none=>rw[hz] at h;cases h
 |some z=>rw[hz] at h;simp only[cM,A7,ak] at h;obtain⟨u,rfl⟩:=h;rw[<-u];rfl
theorem Ys{d:Int×Int×Int×aQ}{e:Option Int}(h:lK d s=some (e,s')):fns 10 d s=some (aS,e,WC s'):=by
 unfold lK at h;unfold fns wG mU;cases hz:eI d s.n s.fn s.XV s.WS s.blocks s.VL s.WD s.VA s.VC s.sent s.safe s.VI s.on s.XU s.VW s.first s.receiver s.VZ s.p7 s.fd s.m8 s.od with
 |none=>rw[hz] at h;cases h
 |some z=>rw[hz] at h;simp only[cM,A7,ak] at h;obtain⟨u,rfl⟩:=h;rw[<-u];rfl
theorem Wc{d:Int×Int×Int×aQ}{b:aQ}{e:Option Int}(h:oG d.2.1 s=some (b,e,s)):fns 2 d s=some (b,e,WC s):=by
 unfold oG at h;unfold fns wG nO;cases hz:fU d.2.1 s.n s.fn s.XV s.WS s.blocks s.VL s.WD s.VA s.VC s.sent s.safe s.VI s.on s.XU s.VW s.first s.receiver s.VZ s.p7 s.fd s.m8 s.od with
 |none=>rw[hz] at h;cases h
 |some z=>rw[hz] at h;simp only[cM,A7,ak] at h;obtain⟨u,A,_⟩:=h;rw[<-u,<-A];rfl
end Go.WU
namespace Go.WU
open Go Go.Sw Go.Mo Go.Pl
variable {v:Nm}{now:List aQ}{snaps:List (List aQ)}{s:PS}
theorem JE(bs:List aQ)(h:bs.length<=1000000):jJ bs=some bs:=by
 unfold jJ;rw[VD _ _ (by simp;omega)];rfl
structure zk (v v':Nm):Prop where
 n:v'.n=v.n
 h:v.h<=v'.h/\v'.h<=v.h+1
 k:v.k<=v'.k
 fb:v'.fb<=v.fb+1
 ob:v'.ob<=v.ob+1
 q:v'.q<=v.q+1
 x:v'.x<=v.x+1
def Ks(v:Nm)(now:List aQ)(snaps:List (List aQ))(s:PS)(d:Int×Int×Int×aQ):Prop:=
 ∃(v':Nm) (H2:List aQ) (XW:List (List aQ)) (s':PS) (pO:Int) (YN:aQ),iM now snaps d=some (pO,YN,H2,XW)/\
  mY d s=some ((pO,YN,(v'.h:Int),s'.safe,(v'.k:Int),XW.getD v'.k []),none,s')/\Inv v' H2 XW s'/\zk v v'
theorem oJ(v:Nm):zk v v:=⟨rfl,⟨YO _,by omega⟩,YO _,by omega,by omega,by omega,by omega⟩
theorem JF(h:Inv v now snaps s){a k:Int}{b:aQ}(hb:YY b):Ks v now snaps s (0,a,k,b):=by
 have C:=h.ep.U8;by_cases u:0<=a/\a<v.n
 ·obtain⟨F,G,B⟩:=IT h u hb;refine⟨v,_,snaps,F,0,aS,?_,qR B (by omega) rfl (BM (d:=(0,a,k,b)) G),B,oJ v⟩;obtain⟨z,H,_⟩:=wT (l:=now) (n:=a) u.1 (by rw[C];exact u.2);have D:cm .lss a (0:Int)=false:=by rw[cl];exact c8 (by omega)
  have E:cm .geq a (now.length:Int)=false:=by rw[I2];exact c8 (by omega)
  show ((bif cm .lss a (0:Int) then some true else some (cm .geq a (now.length:Int))).bind fun A=>bif A then some ((1:Int),aS,now,snaps) else (Sw.idx now a).bind fun _=>some ((0:Int),aS,(List.set now (Int.toNat a) b),snaps))=_;rw[D,E];simp only[pF,cM,H]
 ·refine⟨v,now,snaps,s,1,aS,?_,qR h (by omega) rfl (BM (d:=(0,a,k,b)) (BG h (show a<0\/a>=v.n by omega))),h,oJ v⟩;have c:(bif cm .lss a (0:Int) then some true else some (cm .geq a (now.length:Int)))=some true:=by
   rw[cl,I2];by_cases c:a<0
   ·rw[C9 c];rfl
   ·rw[c8 c,C9 (by omega)];rfl
  show ((bif cm .lss a (0:Int) then some true else some (cm .geq a (now.length:Int))).bind fun A=>bif A then some ((1:Int),aS,now,snaps) else (Sw.idx now a).bind fun _=>some ((0:Int),aS,(List.set now (Int.toNat a) b),snaps))=_;rw[c];rfl
theorem EB(h:Inv v now snaps s){a k:Int}{b:aQ}:Ks v now snaps s (1,a,k,b):=by
 have C:=h.ep.U8;by_cases u:0<=a/\a<v.n
 ·obtain⟨F,G,B⟩:=IT h u B3;refine⟨v,_,snaps,F,0,aS,?_,qR B (by omega) rfl (Vz (d:=(1,a,k,b)) G),B,oJ v⟩;obtain⟨z,H,_⟩:=wT (l:=now) (n:=a) u.1 (by rw[C];exact u.2);have D:cm .lss a (0:Int)=false:=by rw[cl];exact c8 (by omega)
  have E:cm .geq a (now.length:Int)=false:=by rw[I2];exact c8 (by omega)
  show ((bif cm .lss a (0:Int) then some true else some (cm .geq a (now.length:Int))).bind fun A=>bif A then some ((1:Int),aS,now,snaps) else (Sw.idx now a).bind fun _=>some ((0:Int),aS,(List.set now (Int.toNat a) aS),snaps))=_;rw[D,E];simp only[pF,cM,H]
 ·refine⟨v,now,snaps,s,1,aS,?_,qR h (by omega) rfl (Vz (d:=(1,a,k,b)) (BG h (show a<0\/a>=v.n by omega))),h,oJ v⟩;have c:(bif cm .lss a (0:Int) then some true else some (cm .geq a (now.length:Int)))=some true:=by
   rw[cl,I2];by_cases c:a<0
   ·rw[C9 c];rfl
   ·rw[c8 c,C9 (by omega)];rfl
  show ((bif cm .lss a (0:Int) then some true else some (cm .geq a (now.length:Int))).bind fun A=>bif A then some ((1:Int),aS,now,snaps) else (Sw.idx now a).bind fun _=>some ((0:Int),aS,(List.set now (Int.toNat a) aS),snaps))=_;rw[c];rfl
theorem EC(h:Inv v now snaps s){a k:Int}{b:aQ}:Ks v now snaps s (2,a,k,b):=by
 have C:=h.ep.U8;by_cases u:0<=a/\a<v.n
 ·refine⟨v,now,snaps,s,0,now.getD a.toNat [],?_,qR h (by omega) rfl (Wc (d:=(2,a,k,b)) (MY h u)),h,oJ v⟩;obtain⟨z,F,G⟩:=wT (l:=now) (n:=a) u.1 (by rw[C];exact u.2);have D:cm .lss a (0:Int)=false:=by rw[cl];exact c8 (by omega)
  have E:cm .geq a (now.length:Int)=false:=by rw[I2];exact c8 (by omega)
  show ((bif cm .lss a (0:Int) then some true else some (cm .geq a (now.length:Int))).bind fun A=>bif A then some ((1:Int),aS,now,snaps) else (Sw.idx now a).bind fun B=>some ((0:Int),B,now,snaps))=_;rw[D,E];simp only[pF,cM,F];rw[O4,G];rfl
 ·refine⟨v,now,snaps,s,1,aS,?_,qR h (by omega) rfl (Wc (d:=(2,a,k,b)) (IU h (show a<0\/a>=v.n by omega))),h,oJ v⟩;have c:(bif cm .lss a (0:Int) then some true else some (cm .geq a (now.length:Int)))=some true:=by
   rw[cl,I2];by_cases c:a<0
   ·rw[C9 c];rfl
   ·rw[c8 c,C9 (by omega)];rfl
  show ((bif cm .lss a (0:Int) then some true else some (cm .geq a (now.length:Int))).bind fun A=>bif A then some ((1:Int),aS,now,snaps) else (Sw.idx now a).bind fun B=>some ((0:Int),B,now,snaps))=_;rw[c];rfl
theorem Ss(h:Inv v now snaps s)(hb:v.h+1<=100000){a k:Int}{b:aQ}:Ks v now snaps s (3,a,k,b):=by
 have D:=h.n1;have E:=h.hs;obtain⟨B,C,u⟩:=Yl h hb;refine⟨_,now,_,B,0,aS,?_,qR u (by omega) rfl (Wa (d:=(3,a,k,b)) C),u,⟨rfl,by simp only;omega,YO _,by simp only;omega,by simp only;omega,by simp only;omega,by simp only;omega⟩⟩;show ((jJ now).bind fun z=>(Sw.app snaps ([z]:(List (List aQ)))).bind fun A=>some ((0:Int),aS,now,A))=_;rw[JE _ (by have:=h.ep.U8;omega),cM,VD _ _ (by simp;omega)];rfl
theorem ED(h:Inv v now snaps s){a k:Int}{b:aQ}:Ks v now snaps s (4,a,k,b):=by
 obtain⟨z,A,u,_⟩:=NA h;exact⟨v,now,snaps,z,0,aS,rfl,qR u (by omega) rfl (JC (d:=(4,a,k,b)) A),u,oJ v⟩
theorem Su(h:Inv v now snaps s)(jh:v.q+1<=100000)(fp:v.x+1<=100000){a k:Int}{b:aQ}(ha:D5 a):Ks v now snaps s (5,a,k,b):=by
 obtain⟨E,F,G,z,A,B,C,D,u,_⟩:=Yq h jh fp ha;exact⟨_,now,snaps,z,0,aS,rfl,qR u (by omega) rfl (Wb (d:=(5,a,k,b)) D),u,⟨rfl,by simp only;omega,A,by simp only;omega,by simp only;omega,B,C⟩⟩
theorem EE(h:Inv v now snaps s){a k:Int}{b:aQ}(ha:D5 a):Ks v now snaps s (6,a,k,b):=by
 obtain⟨z,A,u⟩:=MZ h ha;exact⟨v,now,snaps,z,0,aS,rfl,qR u (by omega) rfl (JD (d:=(6,a,k,b)) A),u,oJ v⟩
theorem Wd(h:Inv v now snaps s){a k:Int}{b:aQ}(ha:D5 a):Ks v now snaps s (7,a,k,b):=by
 obtain⟨z,A,u⟩:=DQ h ha;exact⟨v,now,snaps,z,0,aS,rfl,qR u (by omega) rfl (Yr (d:=(7,a,k,b)) A),u,oJ v⟩
theorem We(h:Inv v now snaps s)(hb:v.fb+1<=3000){a k:Int}{b:aQ}:Ks v now snaps s (8,a,k,b):=by
 have H:=h.C2;have I:=h.hs;have K:=h.n1;obtain⟨F,G,_,u⟩:=DT h hb (8,a,k,b);refine⟨_,_,snaps,F,0,aS,?_,qR (i:=8) u (by omega) rfl G,u,⟨rfl,by simp only;omega,YO _,YO _,by simp only;omega,by simp only;omega,by simp only;omega⟩⟩;have z:snaps.getD v.h []∈snaps:=by
  rw[O4,D3 (by omega)];exact ei _
 show ((gB (now,snaps)).bind fun C=>(Sw.idx snaps C).bind fun D=>(jJ D).bind fun E=>some ((0:Int),aS,E,snaps))=_;have A:gB (now,snaps)=some (v.h:Int):=by
  unfold gB;rw[L5 (by simp only;omega)];simp only;congr 1;omega
 have B:Sw.idx snaps (v.h:Int)=some (snaps.getD v.h []):=qO (by rw[O4,D3 (by omega)];rfl);rw[A,cM,B,cM,JE _ (by have:=h.ep.len _ z;omega)];rfl
theorem Wg(h:Inv v now snaps s)(hb:v.ob+1<=3000){a k:Int}{b:aQ}:Ks v now snaps s (9,a,k,b):=by
 obtain⟨z,A,_,u⟩:=DU h hb (9,a,k,b);exact⟨_,now,snaps,z,0,aS,rfl,qR (i:=9) u (by omega) rfl A,u,⟨rfl,by simp only;omega,YO _,by simp only;omega,YO _,by simp only;omega,by simp only;omega⟩⟩
theorem Wh(h:Inv v now snaps s){a k:Int}{b:aQ}(ha:D5 a)(hk:D5 k)(hb:YY b):Ks v now snaps s (10,a,k,b):=by
 obtain⟨z,A,u⟩:=DS h (d:=(10,a,k,b)) ha hk hb;exact⟨v,now,snaps,z,0,aS,rfl,qR u (by omega) rfl (Ys (d:=(10,a,k,b)) A),u,oJ v⟩
theorem SJ(h:Inv v now snaps s)(hb:v.h+1<=100000/\v.fb+1<=3000/\v.ob+1<=3000/\v.q+1<=100000/\v.x+1<=100000){d:Int×Int×Int×aQ}(h1:D5 d.2.1)(h2:D5 d.2.2.1)(h3:YY d.2.2.2):Ks v now snaps s d:=by
 obtain⟨c,a,k,b⟩:=d;simp only at h1 h2 h3;by_cases z:c<0\/11<=c
 ·refine⟨v,now,snaps,s,3,aS,?_,NG h z,h,oJ v⟩;have A:(bif (cm .lss c (0:Int)) then some true else some (cm .geq c (11:Int)))=some true:=by
   rw[cl,I2];by_cases u:c<0
   ·rw[C9 u];rfl
   ·rw[c8 u,C9 (by omega)];rfl
  unfold iM;rw[A];rfl
 ·have B:c=0\/c=1\/c=2\/c=3\/c=4\/c=5\/c=6\/c=7\/c=8\/c=9\/c=10:=by omega
  rcases B with rfl | rfl | rfl | rfl | rfl | rfl | rfl | rfl | rfl | rfl | rfl
  ·exact JF h h3
  ·exact EB h
  ·exact EC h
  ·exact Ss h hb.1
  ·exact ED h
  ·exact Su h hb.2.2.2.1 hb.2.2.2.2 h1
  ·exact EE h h1
  ·exact Wd h h1
  ·exact We h hb.2.1
  ·exact Wg h hb.2.2.1
  ·exact Wh h h1 h2 h3
end Go.WU
namespace Go.WU
open Go Go.Sw Go.Mo Go.Pl
abbrev mG:=Int×Int×Int×aQ
abbrev Bz:=Int×aQ×Int×Int×Int×List aQ
def xQ(d:mG):Prop:=D5 d.2.1/\D5 d.2.2.1/\YY d.2.2.2
inductive dk:Nm->List aQ->List (List aQ)->PS->List mG->List Bz->Nm->List aQ->List (List aQ)->PS->Prop where
 |nil {v now snaps s} (h:Inv v now snaps s):dk v now snaps s [] [] v now snaps s
 |cons {v now snaps s v' H2 XW s' v2 p4 YD s2} {d:mG} {ds:List mG} {rs:List Bz} {pO:Int} {YN:aQ} (h:Inv v now snaps s) (hc:iM now snaps d=some (pO,YN,H2,XW))
   (hd:mY d s=some ((pO,YN,(v'.h:Int),s'.safe,(v'.k:Int),XW.getD v'.k []),none,s')) (h':Inv v' H2 XW s') (g:zk v v') (t:dk v' H2 XW s' ds rs v2 p4 YD s2):
   dk v now snaps s (d::ds) ((pO,YN,(v'.h:Int),s'.safe,(v'.k:Int),XW.getD v'.k [])::rs) v2 p4 YD s2
theorem BN:∀(ds:List mG) {v:Nm} {now:List aQ} {snaps:List (List aQ)} {s:PS},Inv v now snaps s->(∀d∈ds,xQ d)->v.h+ds.length<=100000->v.fb+ds.length<=3000->v.ob+ds.length<=3000->v.q+ds.length<=100000->v.x+ds.length<=100000->
  ∃rs v2 p4 YD s2,dk v now snaps s ds rs v2 p4 YD s2/\rs.length=ds.length/\Inv v2 p4 YD s2
 | [],v,now,snaps,s,h,_,_,_,_,_,_=>⟨[],v,now,snaps,s,.nil h,rfl,h⟩
 |d::ds,v,now,snaps,s,h,A,L,M,N,O,P=>by
  simp only[D2] at L M N O P;obtain⟨C,D,E⟩:=A d (Y9 ..);obtain⟨V,X,XW,s',pO,YN,F,G,z,u⟩:=SJ h (by omega) C D E;have Q:=u.h;have R:=u.fb;have S:=u.ob;have T:=u.q;have U:=u.x;obtain⟨rs,v2,p4,YD,s2,H,I,K⟩:=BN ds z (fun x B=>A x (Y8 _ B)) (by omega) (by omega) (by omega) (by omega) (by omega);exact⟨_,v2,p4,YD,s2,.cons h F G z u H,by simp[I],K⟩
theorem Yt{n:Nat}(h0:1<=n)(h1:n<=32){ds:List mG}(hl:ds.length<=300)(hd:∀d∈ds,xQ d):
  ∃s0 rs v2 p4 YD s2,iG (n:Int)=some (some (WC s0),none)/\Inv ⟨n,0,1,1,0,0,0⟩ (List.replicate n aS) [List.replicate n aS] s0/\
   dk ⟨n,0,1,1,0,0,0⟩ (List.replicate n aS) [List.replicate n aS] s0 ds rs v2 p4 YD s2/\rs.length=ds.length/\Inv v2 p4 YD s2:=by
 obtain⟨u,z,A,B,C⟩:=IK h0 h1;have h:=DP h0 h1 A B;obtain⟨rs,v2,p4,YD,s2,D,E,F⟩:=BN ds h hd (by simp only;omega) (by simp only;omega) (by simp only;omega) (by simp only;omega) (by simp only;omega);exact⟨Jh n u z,rs,v2,p4,YD,s2,C,h,D,E,F⟩
def OL(i:Int)(s:PS)(rs:List Bz):=(i,s.n,s.fn,s.XV,s.WS,s.VL,s.VA,s.VC,s.sent,s.safe,s.on,s.XU,s.VW,s.first,s.receiver,rs,s.p7,s.fd,s.blocks,s.WD,s.VI,s.m8,s.od,s.VZ)
theorem JG{δ:Type}{step:_->Option (Step _ δ)}{l:List mG}{fin:PS->List Bz->δ}
  (hs:∀(i:Nat) (d:mG) (s s':PS) (acc:List Bz) (r:Bz),l[i]? =some d->i<=1000->acc.length<=1000->mY d s=some (r,none,s')->step (OL (i:Int) s acc)=some (.next (OL ((i+1:Nat):Int) s' (acc++[r]))))
  (he:∀(s:PS) (acc:List Bz),step (OL (l.length:Int) s acc)=some (.done (fin s acc))) (hl:l.length<=1000):
  ∀{v now snaps s ds rs v2 p4 YD s2},dk v now snaps s ds rs v2 p4 YD s2->∀(pre:List mG) (acc:List Bz) (f:Nat),l=pre++ds->acc.length=pre.length->ds.length<f->
   loop step f (OL (pre.length:Int) s acc)=some (fin s2 (acc++rs)):=by
 intro v now snaps s ds rs v2 p4 YD s2 t
 induction t with
 |nil h=>
  intro pre acc f u B z;obtain⟨f,rfl⟩:∃g,f=g+1:=⟨f - 1,by simp at z;omega⟩;have:pre=l:=by simpa using u.symm
  rw[this,Go.WM.j7 (he _ _),X1]
 |cons h F C G g t D=>
  rename_i d ds rs pO YN;intro pre acc f u B z;simp only[D2] at z;obtain⟨f,rfl⟩:∃g,f=g+1:=⟨f - 1,by omega⟩;have E:l.length=pre.length+ds.length+1:=by rw[u];simp;omega
  rw[Go.WM.o6 (hs pre.length d _ _ acc _ (by rw[u];simp) (by omega) (by omega) C)];have A:=fun r:Bz=>D (pre++[d]) (acc++[r]) f (by rw[u];simp) (by simp[B]) (by omega);simp only[sM,aCw,A8,aD3] at A ⊢;exact A _
end Go.WU
namespace Go.WU
open Go Go.Sw Go.Mo Go.Pl
theorem PY{n:Nat}(h0:1<=n)(h1:n<=32){ds:List mG}(hl:ds.length<=300){s0:PS}(XY:iG (n:Int)=some (some (WC s0),none)){v now snaps rs v2 p4 YD s2}(t:dk v now snaps s0 ds rs v2 p4 YD s2):
  jI (n:Int) ds=some (some (WC s2),rs,none):=by
 have A:cm .lss (n:Int) (1:Int)=false:=by rw[cl];exact c8 (by omega)
 have B:cm .gtr (n:Int) (32:Int)=false:=by rw[cg];exact c8 (by omega)
 have C:cm .gtr (ds.length:Int) (300:Int)=false:=by rw[cg];exact c8 (by omega)
 unfold jI;rw[A,B,C];simp only[pF,cM];rw[XY,cM];simp only[vU,ZV,pF];unfold lp
 rw[show (((0:Int),(WC s0).1,(WC s0).2.1,(WC s0).2.2.1,(WC s0).2.2.2.1,(WC s0).2.2.2.2.2.1,(WC s0).2.2.2.2.2.2.2.1,(WC s0).2.2.2.2.2.2.2.2.1,(WC s0).2.2.2.2.2.2.2.2.2.1,(WC s0).2.2.2.2.2.2.2.2.2.2.1,(WC s0).2.2.2.2.2.2.2.2.2.2.2.2.1,(WC s0).2.2.2.2.2.2.2.2.2.2.2.2.2.1,(WC s0).2.2.2.2.2.2.2.2.2.2.2.2.2.2.1,(WC s0).2.2.2.2.2.2.2.2.2.2.2.2.2.2.2.1,(WC s0).2.2.2.2.2.2.2.2.2.2.2.2.2.2.2.2.1,([]:(List (Int×aQ×Int×Int×Int×(List aQ)))),(WC s0).2.2.2.2.2.2.2.2.2.2.2.2.2.2.2.2.2.2.1,(WC s0).2.2.2.2.2.2.2.2.2.2.2.2.2.2.2.2.2.2.2.1,(WC s0).2.2.2.2.1,(WC s0).2.2.2.2.2.2.1,(WC s0).2.2.2.2.2.2.2.2.2.2.2.1,(WC s0).2.2.2.2.2.2.2.2.2.2.2.2.2.2.2.2.2.2.2.2.1,(WC s0).2.2.2.2.2.2.2.2.2.2.2.2.2.2.2.2.2.2.2.2.2,(WC s0).2.2.2.2.2.2.2.2.2.2.2.2.2.2.2.2.2.1))=OL ((([]:List mG).length:Nat):Int) s0 [] from rfl,
  JG (l:=ds) (fin:=fun s rs=>Ex.WB (OL 0 s rs).2) ?_ ?_ (by omega) t [] [] fJ rfl rfl (by unfold fJ;omega)]
 ·rfl
 ·intro i d s H acc r u I K h;unfold mY at h;have G:i<ds.length:=(aCb.1 u).1;have D:cm .lss (i:Int) (ds.length:Int)=true:=by rw[cl];exact C9 (by omega)
  simp only[OL];rw[D,XG,qO u,cM];cases hz:hO d s.n s.fn s.XV s.WS s.blocks s.VL s.WD s.VA s.VC s.sent s.safe s.VI s.on s.XU s.VW s.first s.receiver s.VZ s.p7 s.fd s.m8 s.od with
  |none=>rw[hz] at h;cases h
  |some z=>
   rw[hz] at h;simp only[cM,A7,ak] at h;obtain⟨rfl,F,rfl⟩:=h;rw[cM];simp only[F,ZV,pF];rw[VD _ _ (by simp;omega),cM,o8 (by omega)]
 ·intro s acc;have E:cm .lss (ds.length:Int) (ds.length:Int)=false:=by rw[cl];exact c8 (by omega)
  simp only[OL];rw[E,pF]
theorem Yu{n:Nat}(h1:n<=32):kM (n:Int)=some (some (List.replicate n aS,[List.replicate n aS])):=by
 have h:Sw.mk (n:Int) aS=some (List.replicate n aS):=by
  unfold Sw.mk;rw[WJ (by omega)];simp
 unfold kM;rw[h,cM,cM,VD _ _ (by simp)];rfl
end Go.WU
namespace Go.WU
open Go Go.Sw Go.Mo Go.Pl
theorem PZ{n:Nat}(h0:1<=n)(h1:n<=32){ds:List mG}(hl:ds.length<=300){s0:PS}(XY:iG (n:Int)=some (some (WC s0),none)){v now snaps rs v2 p4 YD s2}(t:dk v now snaps s0 ds rs v2 p4 YD s2):
  jI (n:Int) ds=some (some (WC s2),rs,none)/\pV (n:Int) ds=some (rs,none):=by
 have h:=PY h0 h1 hl XY t;refine⟨h,?_⟩;unfold pV;rw[h];rfl
end Go.WU
namespace Go.WU
open Go Go.Sw Go.Mo Go.Pl
theorem JH{δ:Type}{step:Int×Int×List aQ×List (List aQ)->Option (Step (Int×Int×List aQ×List (List aQ)) δ)}{l:List mG}{L:List Bz}{fin:δ}
  (hs:∀(i:Nat) (d:mG) (v v':Nm) (now H2:List aQ) (snaps XW:List (List aQ)) (s':PS) (back pO:Int) (YN:aQ),l[i]? =some d->L[i]? =some (pO,YN,(v'.h:Int),s'.safe,(v'.k:Int),XW.getD v'.k [])->i<=1000->
   iM now snaps d=some (pO,YN,H2,XW)->Inv v' H2 XW s'->zk v v'->back<=v.k->step (back,(i:Int),now,snaps)=some (.next ((v'.k:Int),((i+1:Nat):Int),H2,XW)))
  (he:∀back now snaps,step (back,(L.length:Int),now,snaps)=some (.done fin)) (hl:l.length<=1000):
  ∀{v now snaps s ds rs v2 p4 YD s2},dk v now snaps s ds rs v2 p4 YD s2->∀(pre:List mG) (mj:List Bz) (back:Int) (f:Nat),l=pre++ds->L=mj++rs->mj.length=pre.length->back<=v.k->ds.length<f->
   loop step f (back,(pre.length:Int),now,snaps)=some fin:=by
 intro v now snaps s ds rs v2 p4 YD s2 t
 induction t with
 |nil h=>
  intro pre mj back f u z A D B;obtain⟨f,rfl⟩:∃g,f=g+1:=⟨f - 1,by simp at B;omega⟩;have:mj=L:=by simpa using z.symm
  rw[<-A,this,Go.WM.j7 (he _ _ _)]
 |cons h E I F g t G=>
  rename_i d ds rs pO YN;intro pre mj back f u z A D B;simp only[D2] at B;obtain⟨f,rfl⟩:∃g,f=g+1:=⟨f - 1,by omega⟩;have H:l.length=pre.length+ds.length+1:=by rw[u];simp;omega
  rw[Go.WM.o6 (hs pre.length d _ _ _ _ _ _ _ back pO YN (by rw[u];simp) (by rw[z,<-A];simp) (by omega) E F g D)];have C:=fun r:Bz=>fun e=>G (pre++[d]) (mj++[r]) _ f (by rw[u];simp) e (by simp[A]) (yu _) (by omega);simp only[sM,aCw,A8,aD3] at C ⊢;exact C _ z
end Go.WU
namespace Go.WU
open Go Go.Sw Go.Mo Go.Pl
open Go.WM (Good bQ eZ dM dT qP qF kE wW)
variable {v:Nm}{now:List aQ}{snaps:List (List aQ)}{s:PS}
end Go.WU
namespace Go.WU
open Go Go.Sw Go.Mo Go.Pl
variable {v:Nm}{now:List aQ}{snaps:List (List aQ)}{s:PS}
end Go.WU
namespace Go.WU
open Go Go.Sw Go.Mo Go.Pl
end Go.WU
namespace Go.WU
open Go Go.Sw Go.Mo Go.Pl
def SP(i:Nat)(x:Option (Step (Int×List mG) (Ex (List mG) (List mG)))):Prop:=∃l':List mG,x=some (.next (((i+1:Nat):Int),l'))/\l'.length=i+1/\∀d∈l',xQ d
theorem QA{i:Nat}{c:Bool}{a b:Option (Step (Int×List mG) (Ex (List mG) (List mG)))}(ha:SP i a)(hb:SP i b):SP i (bif c then a else b):=by cases c<;>assumption
theorem SP.jp{i:Nat}{β:Type}{k:β->Option (Step (Int×List mG) (Ex (List mG) (List mG)))}{body:(β->Option (Step (Int×List mG) (Ex (List mG) (List mG))))->Option (Step (Int×List mG) (Ex (List mG) (List mG)))}(hk:∀x,SP i (k x))(h:∀k',(∀x,SP i (k' x))->SP i (body k')):SP i (Sw.jp k body):=h k hk
theorem NH{i:Nat}{l:List mG}{d:mG}(hi:i<=1000)(hl:l.length=i)(h:∀d∈l,xQ d)(hd:xQ d):SP i ((Sw.app l [d]).bind fun v=>some (.next ((ar .add .i64 (i:Int) 1),v))):=by
 rw[VD _ _ (by simp[hl];omega),cM,o8 (by omega)]
 exact⟨_,rfl,by simp[hl],fun x u=>by
  rcases K9.1 u with u | u
  ·exact h x u
  ·rw[zf.1 u];exact hd⟩
theorem SP.block{i:Nat}{raw:List Int}(hr:HD raw){p:Nat}(hp:p<=100000){k:aQ->Option (Step (Int×List mG) (Ex (List mG) (List mG)))}(hk:∀b,YY b->SP i (k b)):SP i ((kL raw (p:Int)).bind k):=by
 obtain⟨b,h,u⟩:=Sa hr p hp;rw[h,cM];exact hk b u
theorem Sv{v:Nat}(h:v<=100000000000):D5 (v:Int):=by unfold D5;omega
theorem EF{many:Nat}(hm:many<=300){step:Int×List mG->Option (Step (Int×List mG) (Ex (List mG) (List mG)))}
  (hs:∀i l,i<many->l.length=i->(∀d∈l,xQ d)->SP i (step ((i:Int),l))) (he:∀l,step ((many:Int),l)=some (.done (.WB l))):
  ∃ds,lp step ((0:Int),([]:List mG)) (fun x=>some x)=some ds/\ds.length=many/\∀d∈ds,xQ d:=by
 obtain⟨b,⟨z,A⟩,B⟩:=OG (γ:=List mG) (step:=step) (k:=fun x=>some x) (fun i (l:List mG)=>((i:Int),l)) (fun l=>l) many (fun i l=>l.length=i/\∀d∈l,xQ d) [] (by unfold fJ;omega) ⟨rfl,by simp⟩
  (fun i l u h=>hs i l u h.1 h.2) (fun l _=>he l)
 exact⟨b,B,z,A⟩
theorem SK{k a b:Int}{x:aQ}(h1:D5 a)(h2:D5 b)(h3:YY x):xQ (k,a,b,x):=⟨h1,h2,h3⟩
theorem Oy{raw:List Int}(hr:HD raw)(at_ many n:Nat)(ha:at_<=1000)(hm:many<=300)(hn:1<=n)(pd:n<=1000):∃ds,lI raw (at_:Int) (many:Int) (n:Int)=some ds/\ds.length=many/\∀d∈ds,xQ d:=by
 unfold lI;refine EF hm (fun i l U K L=>?_) (fun l=>?_)
 ·rw[cl,C9 (by omega),XG,ZN (by omega),show (at_:Int)+(i:Int)=((at_+i:Nat):Int) by omega];obtain⟨v,P,V⟩:=Xs hr (at_+i) (by omega);rw[P,cM,HB (by omega),cM];have B:ar .quo .i64 (v:Int) 40=((v / 40:Nat):Int):=HA (b:=40) (by omega);have C:ar .quo .i64 (v:Int) 7=((v / 7:Nat):Int):=HA (b:=7) (by omega);have D:ar .rem .i64 ((v / 40:Nat):Int) (n:Int)=((v / 40 % n:Nat):Int):=AJ;have E:ar .rem .i64 ((v / 7:Nat):Int) 90=((v / 7 % 90:Nat):Int):=AJ (b:=90);have F:ar .rem .i64 ((v / 40:Nat):Int) 7=((v / 40 % 7:Nat):Int):=AJ (b:=7);have Q:v / 40 % n<=1000:=by have:=lv (v / 40) (show n>0 by omega);omega
  have R:v / 7 % 90<=1000:=by omega
  have S:v / 40 % 7<=1000:=by omega
  rw[B,C,D,E,F];have u:D5 ((v / 40 % n:Nat):Int):=Sv (by omega);have G:D5 ((v / 7 % 90:Nat):Int):=Sv (by omega);have z:D5 ((v / 40 % 7:Nat):Int):=Sv (by omega);have T:ar .add .i64 ((at_+i:Nat):Int) 0=((at_+i:Nat):Int):=by rw[ZN (by omega)];omega
  have H:ar .add .i64 (at_:Int) (ar .mul .i64 3 (i:Int))=((at_+3*i:Nat):Int):=by
   rw[show ar .mul .i64 3 (i:Int)=((3*i:Nat):Int) from Hm (a:=3) (by omega),ZN (by omega)];omega
  have I:ar .add .i64 (at_:Int) (ar .mul .i64 2 (i:Int))=((at_+2*i:Nat):Int):=by
   rw[show ar .mul .i64 2 (i:Int)=((2*i:Nat):Int) from Hm (a:=2) (by omega),ZN (by omega)];omega
  rw[H,I];have h:∀(k a:Int) (b:aQ),D5 a->YY b->SP i ((Sw.app l [(k,a,((v / 7 % 90:Nat):Int),b)]).bind fun v=>some (.next ((ar .add .i64 (i:Int) 1),v))):=fun k a b M N=>NH (by omega) K L (SK M G N)
  repeat' (first
   | (with_reducible exact h _ _ _ u B3)
   | (with_reducible exact h _ _ _ z B3)
   | (with_reducible exact h _ _ _ u A)
   | (with_reducible exact h _ _ _ z A)
   | (with_reducible exact O _)
   | (with_reducible refine SP.block hr (by omega) fun b A=>?_)
   | (with_reducible refine SP.jp (fun x=>?_) (fun k O=>?_))
   | (with_reducible refine QA ?_ ?_))
 ·rw[cl,c8 (by omega)];rfl
end Go.WU
namespace Go.WU
open Go Go.Sw Go.Mo Go.Pl
theorem Wi{raw:List Int}(hr:HD raw){a1 a2 a3:Int}(h1:Go.Pl.D5 a1)(h2:Go.Pl.D5 a2)(h3:Go.Pl.D5 a3)(M:Nat)(hM0:0<M)(hM:M<=300):
  ∃(n:Nat) (p1 p2 p3:Int) (ds:List mG),1<=n/\n<=32/\lP a1 32=some p1/\ar .add .i64 (1:Int) p1=(n:Int)/\lP a2 1000=some p2/\lP a3 (M:Int)=some p3/\
   lI raw p2 p3 (n:Int)=some ds/\ds.length<=300/\∀d∈ds,xQ d:=by
 have G:=Li (c:=a1) (n:=32) (by omega);have H:=Li (c:=a2) (n:=1000) (by omega);have I:=Li (c:=a3) (n:=(M:Int)) (by omega);obtain⟨h,B⟩:∃k:Nat,pick a1 32=k:=⟨(pick a1 32).toNat,by omega⟩;obtain⟨u,C⟩:∃k:Nat,pick a2 1000=k:=⟨(pick a2 1000).toNat,by omega⟩;obtain⟨z,D⟩:∃k:Nat,pick a3 (M:Int)=k:=⟨(pick a3 (M:Int)).toNat,by omega⟩;have A:ar .add .i64 (1:Int) (h:Int)=((h+1:Nat):Int):=by rw[ZN (by omega)];omega
 obtain⟨ds,E,K,F⟩:=Oy hr u z (h+1) (by omega) (by omega) (by omega) (by omega);exact⟨h+1,h,u,z,ds,by omega,by omega,by rw[Lh h1 (by omega),B],A,by rw[Lh h2 (by omega),C],by rw[Lh h3 (by omega),D],E,by omega,F⟩
end Go.WU
namespace Go.WU
open Go Go.Sw Go.Mo Go.Pl
theorem dh{a0:List Int}{a1 a2 a3:Int}(hw:∀x∈a0,Go.Pl.D5 x)(h1:Go.Pl.D5 a1)(h2:Go.Pl.D5 a2)(h3:Go.Pl.D5 a3):pJ a0 a1 a2 a3=some true:=by
 unfold pJ;by_cases D:(128:Int)<(a0.length:Int)
 ·have e:cm .gtr (a0.length:Int) (128:Int)=true:=by rw[cg];exact C9 D
  rw[e];rfl
 ·have e:cm .gtr (a0.length:Int) (128:Int)=false:=by rw[cg];exact c8 D
  obtain⟨n,p1,p2,p3,G,H,C,b1,b2,b3,b4,b5,I,b7⟩:=Wi (raw:=a0) ⟨hw,by omega⟩ h1 h2 h3 150 (by omega) (by omega);rw[e,pF,b1,cM,b3,cM,show (150:Int)=((150:Nat):Int) from rfl,b4,cM,b2,b5,cM];obtain⟨s0,A,v2,p4,YD,s2,c1,c2,K,c4,c5⟩:=Yt H C I b7;have B:∀x:Int,cm .neq x x=false:=fun x=>by rw[cn];simp
  rw[(PZ H C I c1 K).2,cM];have M:cm .neq (A.length:Int) (G.length:Int)=false:=by rw[c4];exact B _
  simp only[ZV,pF,M,cM];rw[Yu C,cM];simp only[vU];unfold lp
  rw[show (((0:Int),(0:Int),List.replicate n aS,[List.replicate n aS]):Int×Int×List aQ×List (List aQ))=(0,((([]:List mG).length:Nat):Int),List.replicate n aS,[List.replicate n aS]) from rfl,
   JH (l:=G) (L:=A) (fin:=Ex.WB ()) ?_ ?_ (by omega) K [] [] 0 fJ rfl rfl rfl (by omega) (by unfold fJ;omega)]
  ·intro i d v u U V X XW s' E pO YN hi F ab hc z g hb;have WZ:i<A.length:=(aCb.1 F).1;have B:cm .lss (i:Int) (A.length:Int)=true:=by rw[cl];exact C9 (by omega)
   have ZF:=z.hs;have pf:=z.kh;have fj:=z.safe;have l3:=z.C2;have aa:=g.k;have N9:=z.n1;have N:gB (V,XW)=some (u.h:Int):=by
    unfold gB;rw[L5 (by simp only;omega)];simp only;congr 1;omega
   have O:cm .lss (u.k:Int) E=false:=by rw[cl];exact c8 (by omega)
   have P:cm .gtr (u.k:Int) (u.h:Int)=false:=by rw[cg];exact c8 (by omega)
   have Q:cm .gtr s'.safe (u.k:Int)=false:=by rw[cg];exact c8 (by omega)
   have R:Sw.idx XW (u.k:Int)=some (XW.getD u.k []):=qO (by rw[O4,D3 (by omega)];rfl);have S:XW.getD u.k []∈XW:=by
    rw[O4,D3 (by omega)];exact ei _
   have T:=Go.YL.O8 (XW.getD u.k []) (by have:=z.ep.len _ S;omega);simp only[B,XG,qO hi,qO F,cM,hc,N,O,P,Q,R,T,pF,lx];rw[o8 (by omega)]
  ·intro E U X;have B:cm .lss (A.length:Int) (A.length:Int)=false:=by rw[cl];exact c8 (by omega)
   simp only[B,pF]
end Go.WU
