/- Plain laws about these plain functions alone. Conditions: none. -/
import Derived.Test.YteckohdbfkhmdacGreatDoorMCMirrorMade
set_option linter.unusedVariables false
set_option linter.unusedSimpArgs false
namespace Go.WX
open Go.Pl
open Go Go.Sw Go.Mo
abbrev fF:=Int×List Int×List aQ
def wP(x:Int):Bool:=decide (x<0) || decide (x>2147483647)
def dU(f:fF):Int:=if f.1<0\/f.1>15 then 1 else if f.2.1.length>12\/f.2.2.length>32 then 2 else if f.2.1.any wP then 1 else 0
theorem Vd{D:Type}(r:Nat->D)(l:List Int):∀i,sU (fun (i:Nat) (x:Int) (_:Unit)=>(if wP x then Step.done (Ex.ret (r i)) else .next ():Step Unit (Ex Unit D))) (fun _=> .WM ()) i () l=match l.findIdx? wP with | some j=> .ret (r (i+j)) | none=> .WM ():=by
 induction l with
 |nil=>intro i;simp[sU]
 |cons x l u=>
  intro i;simp only[sU,List.findIdx?_cons];by_cases h:wP x=true
  ·simp[h]
  ·simp only[h,c9,u,O4];cases l.findIdx? wP with
   |none=>rfl
   |some j=>simp[aDs,aDg 1]
theorem Ve(l:List Int):l.any wP=(l.findIdx? wP).isSome:=by
 rw[List.findIdx?_isSome]
theorem DO(x:Int):pS x=some (wP x):=by
 unfold pS wP;by_cases h:x<0
 ·have:cm .lss x 0=true:=by simp[cm,h]
  simp[this,h]
 ·have:cm .lss x 0=false:=by simp[cm];omega
  simp[this,h,cm]
theorem Vf(l:List Int)(h:l.length<=1000000):cW l=some (l.any wP):=by
 unfold cW dZ;rw[show (0:Int)=((0:Nat):Int) from rfl,Bl (l:=l) (fun i (_:Unit)=>(i:Int)) () (fun i x _=>if wP x then .done (.ret (i:Int)) else .next ()) (fun _=> .WM ()) (by unfold fJ;omega)]
 ·rw[Vd (fun i=>(i:Int)),Ve];cases l.findIdx? wP<;>simp[out,cm]
 ·rintro u x z acc rfl;simp only[pL,XP,mW,cM,DO,HF (n:=u.length) (m:=1000000) (by simp at h;omega) (by omega)];cases wP x<;>simp[It]
 ·intro _;simp[dS]
theorem Fp(f:fF):qC f=some (if dU f=0 then none else some (dU f)):=by
 obtain⟨s,h,u⟩:=f;unfold qC dU;by_cases z:s<0
 ·have:cm .lss s 0=true:=by simp[cm,z]
  simp[this,z]
 have A:cm .lss s 0=false:=by simp[cm];omega
 by_cases C:s>15
 ·have:cm .gtr s 15=true:=by simp[cm];omega
  simp[A,this,C]
 have D:cm .gtr s 15=false:=by simp[cm];omega
 have E:¬(s<0\/s>15):=by omega
 simp only[A,D,pF,cM,E,c9];by_cases F:h.length>12
 ·have:cm .gtr (h.length:Int) 12=true:=by simp[cm];omega
  simp[this,F]
 have B:cm .gtr (h.length:Int) 12=false:=by simp[cm];omega
 by_cases G:u.length>32
 ·have:cm .gtr (u.length:Int) 32=true:=by simp[cm];omega
  simp[B,this,G]
 have H:cm .gtr (u.length:Int) 32=false:=by simp[cm];omega
 have I:¬(h.length>12\/u.length>32):=by omega
 simp only[B,H,pF,cM,I,c9,Vf h (by omega)];cases h.any wP<;>simp
def vf:Nat->Nat->List Int
 | 0,n=>[(n:Int)]
 |k+1,n=>if n<128 then [(n:Int)] else ((128+n % 128:Nat):Int)::vf k (n / 128)
theorem Nj:∀k n,n<128 ^ (k+1)->Bytes (vf k n)/\(vf k n).length<=k+1
 | 0,n,h=>by
  simp at h;exact⟨fun x u=>by simp[vf] at u;omega,by simp[vf]⟩
 |k+1,n,h=>by
  unfold vf;split
  ·exact⟨fun x u=>by simp at u;omega,by simp⟩
  ·have z:n / 128<128 ^ (k+1):=by rw[aEf] at h;omega
   obtain⟨A,B⟩:=Nj k (n / 128) z;refine⟨fun x u=>?_,by simp;omega⟩;rcases n7.1 u with rfl | u
   ·have:=mr n (by decide:0<128);omega
   ·exact A x u
theorem Qs{γ:Type}{step:Int×List Int->Option (Step (Int×List Int) (Ex (Int×List Int) γ))}
  (h1:∀(n:Nat) acc,128<=n->n<34359738368->acc.length<=1000000->step ((n:Int),acc)=some (.next (((n / 128:Nat):Int),acc++[((128+n % 128:Nat):Int)])))
  (h2:∀(n:Nat) acc,n<128->step ((n:Int),acc)=some (.done (.WM ((n:Int),acc)))):
  ∀(k n:Nat) (acc:List Int) (f:Nat),n<128 ^ (k+1)->n<34359738368->acc.length+k<=1000000->k<f->∃(m:Nat) (XS:List Int),loop step f ((n:Int),acc)=some (.WM ((m:Int),XS))/\m<128/\XS++[(m:Int)]=acc++vf k n
 | 0,n,acc,f,h,_,_,C=>by
  obtain⟨f,rfl⟩:∃f',f=f'+1:=⟨f - 1,by omega⟩;simp at h;exact⟨n,acc,by simp[loop,h2 n acc h],h,rfl⟩
 |k+1,n,acc,f,h,D,E,C=>by
  obtain⟨f,rfl⟩:∃f',f=f'+1:=⟨f - 1,by omega⟩;by_cases u:n<128
  ·exact⟨n,acc,by simp[loop,h2 n acc u],u,by simp[vf,u]⟩
  ·obtain⟨m,XS,z,A,B⟩:=Qs h1 h2 k (n / 128) (acc++[((128+n % 128:Nat):Int)]) f (by rw[aEf] at h;omega) (by omega) (by simp;omega) (by omega);refine⟨m,XS,?_,A,?_⟩
   ·simp only[loop,h1 n acc (by omega) D (by omega)];exact z
   ·rw[B];simp[vf,u]
theorem TZ:∀a:Fin 256,ar .or .u8 ((a.1:Nat):Int) 128=((128+a.1 % 128:Nat):Int):=by decide+kernel
theorem Dk(n:Nat):IntKind.wrap .u8 (n:Int)=((n % 256:Nat):Int):=by
 simp[IntKind.wrap,IntKind.signed,IntKind.bits]
theorem UA(n:Nat):sh .shr .i64 (n:Int) 7=((n / 128:Nat):Int):=by
 show Int.fdiv _ _=_;have:(2:Int) ^ min (7:Int).toNat (IntKind.bits .i64)=128:=by decide
 rw[this,vn _ (by omega)];omega
theorem IG:∀s:Fin 16,∀n:Fin 13,ar .or .u8 (sh .shl .u8 (IntKind.wrap .u8 (s.1:Int)) 4) (IntKind.wrap .u8 (n.1:Int))=IntKind.wrap .u8 (ar .add .i64 (ar .mul .i64 16 (s.1:Int)) (n.1:Int)):=by decide+kernel
def Hu(f:fF):List Int:=[IntKind.wrap .u8 (ar .add .i64 (ar .mul .i64 16 f.1) (f.2.1.length:Int)),IntKind.wrap .u8 (f.2.2.length:Int)]
def vs(ns:List Int):List Int:=ns.flatMap fun n=>vf 4 n.toNat
def body(f:fF):List Int:=Hu f++vs f.2.1++f.2.2.flatten
def w9(v:Nat):List Int:=[((v / 16777216:Nat):Int),((v / 65536 % 256:Nat):Int),((v / 256 % 256:Nat):Int),((v % 256:Nat):Int)]
def bP(f:fF):List Int:=body f++w9 (4294967295 - Aa (nat (body f)))
theorem C6{α A B β γ:Type}{step:α->Option (Step α (Ex β γ))}{l:List A}{k:β->Option γ}(st:Nat->B->α)(I:Nat->B->Prop)(YX:B)(g:Nat->A->B->B)(fin:B->β)(hf:l.length<fJ)(h0:I 0 YX)
  (hs:∀pre x rest acc,l=pre++x::rest->I pre.length acc->step (st pre.length acc)=some (.next (st (pre.length+1) (g pre.length x acc)))/\I (pre.length+1) (g pre.length x acc))
  (he:∀acc,I l.length acc->step (st l.length acc)=some (.done (.WM (fin acc)))):
  lp step (st 0 YX) k=k (fin ((l.zipIdx).foldl (fun acc x=>g x.2 x.1 acc) YX)):=by
 have C:∀(rest pre:List A) (acc:B) (f:Nat),l=pre++rest->I pre.length acc->rest.length<f->loop step f (st pre.length acc)=some (.WM (fin ((rest.zipIdx pre.length).foldl (fun acc x=>g x.2 x.1 acc) acc))):=by
  intro rest
  induction rest with
  |nil=>
   intro pre acc f u z hf;obtain⟨f,rfl⟩:∃f',f=f'+1:=⟨f - 1,by simp at hf;omega⟩;have:=he acc (by rw[u,Y6];exact z);rw[u,Y6] at this;simp[loop,this]
  |cons x rest F=>
   intro pre acc f u z hf;obtain⟨f,rfl⟩:∃f',f=f'+1:=⟨f - 1,by simp at hf;omega⟩;obtain⟨D,E⟩:=hs pre x rest acc u z;simp only[loop,D];have:=F (pre++[x]) (g pre.length x acc) f (by rw[u];simp) (by simpa using E) (by simp at hf;omega);simpa using this
 have h:=C l [] YX fJ rfl h0 hf;unfold lp;simp only[U8] at h;rw[h]
theorem ZL{A:Type}(w:A->List Int):∀(l:List A) (i:Nat) (acc:List Int),(l.zipIdx i).foldl (fun acc x=>acc++w x.1) acc=acc++l.flatMap w
 | [],_,acc=>by simp
 |x::l,i,acc=>by simp[ZL w l]
end Go.WX
namespace Go.WX
open Go.Pl
open Go Go.Sw Go.Mo
theorem VN{α:Type}(xs ys:List α)(h:xs.length+ys.length<=4294967296):Sw.app xs ys=some (xs++ys):=by unfold Sw.app;rw[WU h]
end Go.WX
namespace Go.WX
open Go.Pl
open Go Go.Sw Go.Mo
theorem MT{γ:Type}{step:Int×List Int->Option (Step (Int×List Int) (Ex (Int×List Int) γ))}{k:Int×List Int->Option γ}
  (h1:∀(n:Nat) acc,128<=n->n<34359738368->acc.length<=1000000->step ((n:Int),acc)=some (.next (((n / 128:Nat):Int),acc++[((128+n % 128:Nat):Int)])))
  (h2:∀(n:Nat) acc,n<128->step ((n:Int),acc)=some (.done (.WM ((n:Int),acc)))) (n:Nat) (acc:List Int) (hn:n<34359738368) (ha:acc.length<=900000):
  ∃(m:Nat) (XS:List Int),lp step ((n:Int),acc) k=k ((m:Int),XS)/\m<128/\XS++[(m:Int)]=acc++vf 4 n:=by
 obtain⟨m,XS,h,u,z⟩:=Qs h1 h2 4 n acc fJ (by omega) hn (by omega) (by unfold fJ;omega);exact⟨m,XS,by unfold lp;rw[h],u,z⟩
structure Good (f:fF):Prop where
 s0:0<=f.1
 s1:f.1<=15
 ns:f.2.1.length<=12
 bs:f.2.2.length<=32
 num:∀n∈f.2.1,0<=n/\n<=2147483647
 YU:∀b∈f.2.2,b.length=8/\Bytes b
theorem qP{f:fF}(h:dU f=0)(hb:∀b∈f.2.2,b.length=8/\Bytes b):Good f:=by
 unfold dU at h;split at h
 ·cases h
 ·split at h
  ·cases h
  ·split at h
   ·cases h
   ·rename_i B C u;refine⟨by omega,by omega,by omega,by omega,fun n z=>?_,hb⟩;have:¬wP n=true:=fun A=>u (aDd.2 ⟨n,z,A⟩);simp[wP] at this;omega
theorem Vg{ns:List Int}(h:∀n∈ns,0<=n/\n<=2147483647):Bytes (vs ns)/\(vs ns).length<=5*ns.length:=by
 induction ns with
 |nil=>exact⟨fun x u=>by simp[vs] at u,by simp[vs]⟩
 |cons n ns C=>
  obtain⟨z,A⟩:=C (fun x u=>h x (by simp[u]));have D:=h n (by simp);obtain⟨B,E⟩:=Nj 4 n.toNat (by omega);refine⟨fun x u=>?_,?_⟩
  ·simp only[vs,aEn,M4] at u;rcases u with u | u
   ·exact B x u
   ·exact z x u
  ·simp only[vs,aEn,sM,E3];unfold vs at A;omega
theorem s8{bs:List aQ}(h:∀b∈bs,b.length=8/\Bytes b):Bytes bs.flatten/\bs.flatten.length=8*bs.length:=by
 induction bs with
 |nil=>exact⟨fun x u=>by simp at u,rfl⟩
 |cons b bs D=>
  obtain⟨z,A⟩:=D (fun x u=>h x (by simp[u]));obtain⟨B,C⟩:=h b (by simp);refine⟨fun x u=>?_,by simp only[aC1,sM,A,B,E3];omega⟩;simp only[aC1,M4] at u;rcases u with u | u
  ·exact C x u
  ·exact z x u
theorem rF{f:fF}(h:Good f):Bytes (body f)/\(body f).length<=1000:=by
 obtain⟨z,B⟩:=Vg h.num;obtain⟨A,C⟩:=s8 h.YU;have:=h.ns;have:=h.bs;refine⟨fun x u=>?_,by simp only[body,Hu,sM,E3,U8];omega⟩;simp only[body,M4] at u;rcases u with (u | u) | u
 ·simp only[Hu,n7,aCs,aEt] at u;rcases u with rfl | rfl
  ·have:=yN .u8 (ar .add .i64 (ar .mul .i64 16 f.1) (f.2.1.length:Int));unfold Cy at this;simpa[IntKind.min,IntKind.max,IntKind.signed,IntKind.bits] using this
  ·have:=yN .u8 (f.2.2.length:Int);unfold Cy at this;simpa[IntKind.min,IntKind.max,IntKind.signed,IntKind.bits] using this
 ·exact z x u
 ·exact A x u
theorem Ev{f:fF}(h:Good f)(he:dU f=0):mT f=some (bP f,none):=by
 obtain⟨s,u,A⟩:=f;have M:=h.s0;have N:=h.s1;have D:=h.ns;have E:=h.bs;have F:=h.num;have G:=h.YU;simp only at D E F G M N;obtain⟨ae,af⟩:=Vg F;obtain⟨ah,ai⟩:=s8 G;obtain⟨K,R8⟩:=rF h;unfold mT;rw[Fp,WU he];simp only[cM,j1,pF];have O:ar .or .u8 (sh .shl .u8 (IntKind.wrap .u8 s) 4) (IntKind.wrap .u8 (u.length:Int))=IntKind.wrap .u8 (ar .add .i64 (ar .mul .i64 16 s) (u.length:Int)):=by
  have:=IG ⟨s.toNat,by omega⟩ ⟨u.length,by omega⟩;have e:((s.toNat:Nat):Int)=s:=by omega
  simpa[e] using this
 rw[O,show ((0:Int),[IntKind.wrap .u8 (ar .add .i64 (ar .mul .i64 16 s) (u.length:Int)),IntKind.wrap .u8 (A.length:Int)])=(((0:Nat):Int),Hu (s,u,A)) from rfl];rw[C6 (l:=u) (fun i (acc:List Int)=>((i:Int),acc)) (fun i acc=>acc.length<=2+5*i) (Hu (s,u,A)) (fun _ n acc=>acc++vf 4 n.toNat) (fun acc=>acc) (by unfold fJ;omega) (by simp[Hu])]
 ·rw[ZL (fun n:Int=>vf 4 n.toNat)];rw[show ((0:Int),Hu (s,u,A)++u.flatMap (fun n=>vf 4 n.toNat))=(((0:Nat):Int),Hu (s,u,A)++vs u) from rfl];rw[C6 (l:=A) (fun i (acc:List Int)=>((i:Int),acc)) (fun i acc=>acc.length<=100+8*i) (Hu (s,u,A)++vs u) (fun _ z acc=>acc++z) (fun acc=>acc) (by unfold fJ;omega) (by simp[Hu];omega)]
  ·rw[ZL (fun z:aQ=>z)];have P:Hu (s,u,A)++vs u++A.flatMap (fun z=>z)=body (s,u,A):=by simp[body,List.flatMap_id']
   rw[P,IF _ K (by omega)];simp only[cM];have XJ:Aa (nat (body (s,u,A)))<4294967296:=Hs _ _ (by decide) (Ht K);generalize hv:4294967295 - Aa (nat (body (s,u,A)))=v;have ZO:v<4294967296:=by omega
   have Q:sh .shr .u32 (v:Int) 24=((v / 16777216:Nat):Int):=by
    show Int.fdiv _ _=_;have:(2:Int) ^ min (24:Int).toNat (IntKind.bits .u32)=16777216:=by decide
    rw[this,vn _ (by omega)];omega
   have R:sh .shr .u32 (v:Int) 16=((v / 65536:Nat):Int):=by
    show Int.fdiv _ _=_;have:(2:Int) ^ min (16:Int).toNat (IntKind.bits .u32)=65536:=by decide
    rw[this,vn _ (by omega)];omega
   have S:sh .shr .u32 (v:Int) 8=((v / 256:Nat):Int):=by
    show Int.fdiv _ _=_;have:(2:Int) ^ min (8:Int).toNat (IntKind.bits .u32)=256:=by decide
    rw[this,vn _ (by omega)];omega
   rw[Q,R,S,Dk,Dk,Dk,Dk];rw[VN _ _ (by simp;omega)];simp only[cM,bP,hv,w9];have T:v / 16777216 % 256=v / 16777216:=O5 (by omega);simp[T]
  ·rintro C z ab acc rfl hI;obtain⟨hz,_⟩:=G z (by simp);simp only[pL,XP,mW,cM];have dj:C.length<=32:=by simp at E;omega
   rw[VN _ _ (by omega),HF (n:=C.length) (m:=1000000) (by simp at E;omega) (by omega)];exact⟨rfl,by simp;omega⟩
  ·intro acc _;simp[dS]
 ·rintro C n ab acc rfl hI;have hn:=F n (by simp);obtain⟨m,rfl⟩:∃m:Nat,n=(m:Int):=⟨n.toNat,by omega⟩;simp only[pL,XP,mW,cM];have U:acc.length<=900000:=by simp at D;omega
  obtain⟨q,XS,H,h4,L⟩:=MT (γ:=Step (Int×List Int) (Ex (List Int) (List Int×Option Int))) (step:=fun (B:Int×(List Int))=>
    bif (cm .gtr B.1 (127:Int)) then
     (Sw.app B.2 ([(ar .or .u8 (IntKind.wrap .u8 B.1) (128:Int))]:(List Int))).bind fun X=>
      some (.next ((sh .shr .i64 B.1 (7:Int)),X))
    else
     some (.done (.WM (B.1,B.2))))
   (k:=fun (I:Int×(List Int))=>(Sw.app I.2 ([(IntKind.wrap .u8 I.1)]:(List Int))).bind fun aa=>some (.next ((ar .add .i64 (C.length:Int) (1:Int)),aa)))
   (by
    intro n acc V h2 H;have:cm .gtr (n:Int) 127=true:=by simp[cm];omega
    simp only[this,XP];rw[Dk,TZ ⟨n % 256,mr _ (by decide)⟩,VN _ _ (by simp;omega),UA];simp only[cM]
    rw[Nat.mod_mod_of_dvd _ (by decide:128 ∣ 256)])
   (by
    intro n acc V;have:cm .gtr (n:Int) 127=false:=by simp[cm];omega
    simp[this]) m acc (by omega) U
  have ac:=(Nj 4 m (by omega)).2;have ad:XS.length+1=acc.length+(vf 4 m).length:=by
   have:=congrArg List.length L;simpa using this
  rw[H];simp only[Dk];rw[VN _ _ (by simp at D;simp;omega),O5 (by omega:q<256),L,HF (n:=C.length) (m:=1000000) (by simp at D;omega) (by omega)];refine⟨by simp,by simp;omega⟩
 ·intro acc _;simp[dS]
theorem Yi{f:fF}(h:Good f):(bP f).length<=1000000:=by
 have:=(rF h).2;simp[bP,w9];omega
end Go.WX
namespace Go.WX
open Go.Pl
open Go Go.Sw Go.Mo
theorem cl(m n:Int):cm .lss m n=decide (m<n):=rfl
theorem cg(m n:Int):cm .gtr m n=decide (m>n):=rfl
theorem zb(m n:Int):cm .leq m n=decide (m<=n):=rfl
theorem J6(m n:Int):cm .geq m n=decide (m>=n):=rfl
theorem ce(m n:Int):cm .eql m n=decide (m=n):=by show (m==n)=_;by_cases h:m=n<;>simp[h]
theorem cn(m n:Int):cm .neq m n=decide (m≠n):=by show (m != n)=_;by_cases h:m=n<;>simp[h]
theorem ZV{m n:Int}(h: -9223372036854775808<=m+n/\m+n<=9223372036854775807):ar .add .i64 m n=m+n:=wrap_i64 h
theorem M8{m n:Int}(h: -9223372036854775808<=m - n/\m - n<=9223372036854775807):ar .sub .i64 m n=m - n:=wrap_i64 h
theorem r5{n:Nat}(h:n<=4611686018427387904):ar .add .i64 (n:Int) 1=((n+1:Nat):Int):=by rw[ZV (by omega)];push_cast;rfl
theorem Bytes.tail{x:Int}{l:List Int}(h:Bytes (x::l)):Bytes l:=fun y u=>h y (by simp[u])
theorem Bytes.head{x:Int}{l:List Int}(h:Bytes (x::l)):0<=x/\x<=255:=h x (by simp)
def Vh:List Int->Int×Bool×List Int
 | []=>(0,false,[])
 |b::r=>(b,true,r)
theorem Sp(l:List Int)(hl:l.length<=1000000):eY l=some (Vh l):=by
 unfold eY;cases l with
 |nil=>rfl
 |cons b r=>
  have:¬((b::r).length:Int)=0:=by simp;omega
  rw[ce];simp only[this,B8,pF];have h:Sw.idx (b::r) 0=some b:=rfl;have u:Sw.sub (b::r) 1 ((b::r).length:Int)=some r:=by
   unfold Sw.sub;rw[WU (by simp;omega)];simp
  rw[h,u];rfl
def wX:Nat->Nat->Nat->List Int->Int×Bool×List Int
 | 0,_,_,l=>(0,false,l)
 |_+1,_,_,[]=>(0,false,[])
 |k+1,i,v,b::l=>if b<128 then (((v+b.toNat % 128*128 ^ i:Nat):Int),decide (v+b.toNat % 128*128 ^ i<=2147483647) && (decide (0<b) || decide (i=0)),l) else wX k (i+1) (v+b.toNat % 128*128 ^ i) l
theorem UB:∀a:Fin 256,ar .and .u8 ((a.1:Nat):Int) 127=((a.1 % 128:Nat):Int):=by decide+kernel
theorem SG{b:Int}(h:0<=b/\b<=255):ar .and .u8 b 127=((b.toNat % 128:Nat):Int):=by
 have:=UB ⟨b.toNat,by omega⟩;have e:((b.toNat:Nat):Int)=b:=by omega
 simpa[e] using this
theorem SH(i:Nat):128 ^ i=2 ^ (7*i):=by rw[Nat.pow_mul]
theorem UC{c i:Nat}(hi:i<=4)(hc:c<128):sh .shl .i64 (c:Int) ((7*i:Nat):Int)=((c*128 ^ i:Nat):Int):=by
 show IntKind.wrap .i64 ((c:Int)*2 ^ min ((7*i:Nat):Int).toNat (IntKind.bits .i64))=_;rw[n9,show IntKind.bits .i64=64 from rfl,qm (by omega),SH];have h:2 ^ (7*i)<=2 ^ 28:=aD9 (by decide) (by omega);have u:c*2 ^ (7*i)<=127*2 ^ 28:=aCu (by omega) h;have e:(c:Int)*2 ^ (7*i)=((c*2 ^ (7*i):Nat):Int):=by push_cast;rfl
 rw[e,wrap_i64 (by omega)]
theorem UD{a b:Nat}(ha:a<4611686018427387904)(hb:b<4611686018427387904):ar .or .i64 (a:Int) (b:Int)=((a ||| b:Nat):Int):=by
 have h:a ||| b<2 ^ 62:=aD1 (by simpa using ha) (by simpa using hb)
 show IntKind.wrap .i64 ((BitVec.ofInt 64 (a:Int) ||| BitVec.ofInt 64 (b:Int)).toNat:Int)=_;simp only[sA,BitVec.toNat_or,zq];rw[O5 (a:=a) (by omega),O5 (a:=b) (by omega)];exact wrap_i64 (by omega)
theorem SI{v c i:Nat}(hi:i<=4)(hc:c<128)(hv:v<128 ^ i):ar .or .i64 (v:Int) ((c*128 ^ i:Nat):Int)=((v+c*128 ^ i:Nat):Int):=by
 have h:128 ^ i<=128 ^ 4:=aD9 (by decide) hi;have u:c*128 ^ i<=127*128 ^ 4:=aCu (by omega) h;rw[UD (by omega) (by omega)];congr 1;rw[SH] at*;have:=aEa hv c;rw[Nat.shiftLeft_eq] at this;rw[Nat.or_comm,<-this,aDg]
theorem SJ{v c i:Nat}(hc:c<128)(hv:v<128 ^ i):v+c*128 ^ i<128 ^ (i+1):=by
 rw[aEf];have:c*128 ^ i<=127*128 ^ i:=uq _ (by omega);omega
theorem PV(l:List Int)(hb:Bytes l)(hl:l.length<=1000000):gE l=some (wX 5 0 0 l):=by
 unfold gE;have M:∀(k i v:Nat) (l:List Int) (f:Nat),i+k=5->v<128 ^ i->Bytes l->l.length<=1000000->k<f->
   ∃e,loop (fun (h:Int×Int×(List Int))=>
  bif (cm .lss h.2.1 (35:Int)) then
   (eY h.2.2).bind fun u=>
    bif (!u.2.1) then
     some (.done (.ret ((0:Int),false,u.2.2)))
    else
     (nn h.2.1).bind fun _=>
      bif (cm .lss u.1 (128:Int)) then
       (bif (cm .leq (ar .or .i64 h.1 (sh .shl .i64 (ar .and .u8 u.1 (127:Int)) h.2.1)) (2147483647:Int)) then
        bif (cm .gtr u.1 (0:Int)) then
         some true
        else
         some (cm .eql h.2.1 (0:Int))
       else
        some false).bind fun T=>
        some (.done (.ret ((ar .or .i64 h.1 (sh .shl .i64 (ar .and .u8 u.1 (127:Int)) h.2.1)),T,u.2.2)))
      else
       some (.next ((ar .or .i64 h.1 (sh .shl .i64 (ar .and .u8 u.1 (127:Int)) h.2.1)),(ar .add .i64 h.2.1 (7:Int)),u.2.2))
  else
   some (.done (.WM h.2.2))
  ) f ((v:Int),((7*i:Nat):Int),l)=some e/\out (fun (U:List Int)=>some ((0:Int),false,U)) e=some (wX k i v l):=by
  intro k
  induction k with
  |zero=>
   intro i v l f R I hb hl S;obtain⟨f,rfl⟩:∃f',f=f'+1:=⟨f - 1,by omega⟩;have N:i=5:=by omega
   subst N;exact⟨.WM l,rfl,rfl⟩
  |succ k V=>
   intro i v l f R I hb hl S;obtain⟨f,rfl⟩:∃f',f=f'+1:=⟨f - 1,by omega⟩;have O:cm .lss ((7*i:Nat):Int) 35=true:=by rw[cl];simp;omega
   have P:nn ((7*i:Nat):Int)=some ():=by unfold nn;rw[WU (by omega)]
   simp only[loop,O,XP,Sp l hl,cM];cases l with
   |nil=>exact⟨.ret (0,false,[]),by simp[Vh],rfl⟩
   |cons b l=>
    have Q:=hb.head;have D:b.toNat % 128<128:=mr _ (by decide);simp only[Vh,kt,pF,P,cM,SG Q,UC (by omega:i<=4) D,SI (by omega:i<=4) D I,cl,zb,cg,ce];by_cases A:b<128
    ·simp only[A,cj,XP];refine⟨.ret (((v+b.toNat % 128*128 ^ i:Nat):Int),decide (v+b.toNat % 128*128 ^ i<=2147483647) && (decide (0<b) || decide (i=0)),l),?_,?_⟩
     ·by_cases E:v+b.toNat % 128*128 ^ i<=2147483647
      ·have B:((v+b.toNat % 128*128 ^ i:Nat):Int)<=2147483647:=by omega
       by_cases F:b>0
       ·have G:0<b:=F;simp only[B,E,G,gt_iff_lt,cj,XP,cM,aEp,Bool.true_or]
       ·have G:¬0<b:=F;have H:(((7*i:Nat):Int)=0)↔i=0:=by omega
        simp only[B,E,F,G,H,cj,B8,XP,pF,cM,aEp,Bool.false_or]
      ·have B:¬((v+b.toNat % 128*128 ^ i:Nat):Int)<=2147483647:=by omega
       simp only[B,E,B8,pF,cM,Bool.false_and]
     ·simp only[out,wX,A,j0]
    ·simp only[A,B8,pF];have H:ar .add .i64 ((7*i:Nat):Int) 7=((7*(i+1):Nat):Int):=by rw[ZV (by omega)];push_cast;omega
     rw[H];obtain⟨e,K,C⟩:=V (i+1) (v+b.toNat % 128*128 ^ i) l f (by omega) (SJ D I) hb.tail (by simp at hl;omega) (by omega);refine⟨e,K,?_⟩;rw[C];simp only[wX,A,c9]
 obtain⟨e,K,C⟩:=M 5 0 0 l fJ rfl (by decide) hb hl (by unfold fJ;omega);unfold lp;have L:=K;simp only[Nat.mul_zero] at L;rw[show ((0:Int),(0:Int),l)=(((0:Nat):Int),((0:Nat):Int),l) from rfl,L];cases e with
 | WM y=>exact C
 |ret z=>exact C
theorem Vi:∀(k i v:Nat) (l:List Int),(wX k i v l).2.2.length<=l.length
 | 0,_,_,l=>YV _
 |_+1,_,_,[]=>YV _
 |k+1,i,v,b::l=>by
  unfold wX;split
  ·simp
  ·exact dv (Vi k _ _ l) (by simp)
theorem BA:∀(k i v:Nat) (l r:List Int) (w:Int),i+k=5->v<128 ^ i->Bytes l->wX k i v l=(w,true,r)->
  ∃q:Nat,w=((v+q*128 ^ i:Nat):Int)/\v+q*128 ^ i<=2147483647/\l=vf (k - 1) q++r/\(0<i->0<q)
 | 0,_,_,_,_,_,_,_,_,h=>by simp[wX] at h
 |_+1,_,_,[],_,_,_,_,_,h=>by simp[wX] at h
 |k+1,i,v,b::l,r,w,P,K,B,h=>by
  have L:=B.head;unfold wX at h;split at h
  ·rename_i H;have C:b.toNat % 128=b.toNat:=O5 (by omega);simp only[bm,E2,zi,aC2,C] at h;obtain⟨rfl,⟨u,z⟩,rfl⟩:=h;refine⟨b.toNat,rfl,u,?_,fun O=>by omega⟩;have e:((b.toNat:Nat):Int)=b:=by omega
   cases k with
   |zero=>simp[vf,e]
   |succ k=>simp only[aDt];unfold vf;rw[WU (by omega),e];rfl
  ·rename_i H;have D:b.toNat % 128<128:=mr _ (by decide);obtain⟨q,u,z,A,I⟩:=BA k (i+1) (v+b.toNat % 128*128 ^ i) l r w (by omega) (SJ D K) B.tail h;have M:0<k:=by
    cases k with
    |zero=>simp[wX] at h
    |succ k=>omega
   obtain⟨k,rfl⟩:∃k',k=k'+1:=⟨k - 1,by omega⟩;have e:v+b.toNat % 128*128 ^ i+q*128 ^ (i+1)=v+(b.toNat % 128+128*q)*128 ^ i:=by rw[aEf,J8];rw[aEd 128 q,Nat.mul_assoc q 128,aEd 128 (128 ^ i)];omega
   have N:=I (by omega);refine⟨b.toNat % 128+128*q,by rw[u,e],by rw[<-e];exact z,?_,fun _=>by omega⟩;simp only[aDt] at A ⊢;unfold vf;rw[WL (by omega),A];have E:(b.toNat % 128+128*q) % 128=b.toNat % 128:=by omega
   have F:(b.toNat % 128+128*q) / 128=q:=by omega
   rw[E,F];have G:((128+b.toNat % 128:Nat):Int)=b:=by omega
   rw[G];rfl
theorem BB:∀(k i v q:Nat) (r:List Int),i+k=4->v+q*128 ^ i<=2147483647->(0<i->0<q)->wX (k+1) i v (vf k q++r)=(((v+q*128 ^ i:Nat):Int),true,r)
 | 0,i,v,q,r,C,z,u=>by
  have A:i=4:=by omega
  subst A;have h:q<128:=by omega
  have u:=u (by omega);have e:q % 128=q:=O5 h;simp only[vf,fj,aj,wX,n9,e];rw[WU (by omega)];simp;omega
 |k+1,i,v,q,r,C,z,u=>by
  unfold vf;by_cases h:q<128
  ·have e:q % 128=q:=O5 h;simp only[h,j0,fj,aj,wX,n9,e];rw[WU (by omega)];simp;omega
  ·simp only[h,c9,fj,wX,n9];rw[WL (by omega)];have B:(128+q % 128) % 128=q % 128:=by omega
   have e:v+q % 128*128 ^ i+q / 128*128 ^ (i+1)=v+q*128 ^ i:=by
    rw[aEf];have:q*128 ^ i=(q % 128+128*(q / 128))*128 ^ i:=by rw[Nat.mod_add_div]
    rw[this,J8,aEd 128 (q / 128),Nat.mul_assoc,aEd 128 (128 ^ i)];omega
   rw[B,BB k (i+1) (v+q % 128*128 ^ i) (q / 128) r (by omega) (by rw[e];exact z) (fun _=>by omega),e]
def Ab:Nat->List Int->List Int->Option (List Int×List Int)
 | 0,acc,l=>some (l,acc)
 |n+1,acc,l=>if (wX 5 0 0 l).2.1 then Ab n (acc++[(wX 5 0 0 l).1]) (wX 5 0 0 l).2.2 else none
theorem Gl:∀(k i v:Nat) (l:List Int),Bytes l->Bytes (wX k i v l).2.2
 | 0,_,_,l,h=>h
 |_+1,_,_,[],h=>h
 |k+1,i,v,b::l,h=>by
  unfold wX;split
  ·exact h.tail
  ·exact Gl k _ _ l h.tail
theorem Nk:∀(n:Nat) (acc l r XS:List Int),Bytes l->Ab n acc l=some (r,XS)->∃ns,XS=acc++ns/\ns.length=n/\(∀x∈ns,0<=x/\x<=2147483647)/\l=vs ns++r
 | 0,acc,l,r,XS,_,h=>by
  simp only[Ab,B9,bm] at h;obtain⟨rfl,rfl⟩:=h;exact⟨[],by simp,rfl,fun x u=>by simp at u,rfl⟩
 |n+1,acc,l,r,XS,A,h=>by
  unfold Ab at h;split at h
  ·rename_i B;obtain⟨ns,C,D,E,F⟩:=Nk n _ _ r XS (Gl _ _ _ _ A) h;obtain⟨q,z,G,H,_⟩:=BA 5 0 0 l (wX 5 0 0 l).2.2 (wX 5 0 0 l).1 rfl (by decide) A (by rw[<-B]);simp only[Nat.pow_zero,Nat.mul_one,zl] at z G;refine⟨(q:Int)::ns,by rw[C,z];simp,by simp[D],fun x u=>?_,?_⟩
   ·rcases n7.1 u with rfl | u
    ·omega
    ·exact E x u
   ·have e:vs ((q:Int)::ns)=vf 4 q++vs ns:=by simp[vs]
    rw[H,F,e,C0]
  ·cases h
theorem Vj:∀(ns acc r:List Int),(∀x∈ns,0<=x/\x<=2147483647)->Ab ns.length acc (vs ns++r)=some (r,acc++ns)
 | [],acc,r,_=>by simp[Ab,vs]
 |x::ns,acc,r,h=>by
  have A:=h x (by simp);have e:vs (x::ns)++r=vf 4 x.toNat++(vs ns++r):=by simp[vs]
  have g:=BB 4 0 0 x.toNat (vs ns++r) rfl (by omega) (fun h=>by omega);simp only[Nat.pow_zero,Nat.mul_one,zl] at g;have u:((x.toNat:Nat):Int)=x:=by omega
  rw[e,E3,Ab,g];simp only[j0,u];rw[Vj ns _ r (fun y z=>h y (by simp[z]))];simp
theorem Kk{c l:List Int}(hc:c.length=8):Sw.chunks 8 (c++l)=c::Sw.chunks 8 l:=by
 unfold Sw.chunks;have e:((c++l).length+8 - 1) / 8=(l.length+8 - 1) / 8+1:=by rw[sM,hc];omega
 rw[e,List.range_succ_eq_map,G0,aEu];congr 1
 ·rw[Nat.zero_mul,List.drop_zero,List.take_append_of_le_length (by omega),aCa (by omega)]
 ·apply List.map_congr_left;intro k _;simp only[Function.comp_apply,Nat.succ_eq_add_one];rw[show (k+1)*8=c.length+k*8 by omega,aD5];congr 1;simp
theorem Kl:∀(bs:List aQ),(∀b∈bs,b.length=8)->Sw.chunks 8 bs.flatten=bs
 | [],_=>rfl
 |b::bs,h=>by rw[aC1,Kk (h b (by simp)),Kl bs (fun c u=>h c (by simp[u]))]
theorem Dl:∀(m:Nat) (l:List Int),l.length=8*m->(Sw.chunks 8 l).flatten=l/\(∀b∈Sw.chunks 8 l,b.length=8)/\(Sw.chunks 8 l).length=m
 | 0,l,h=>by
  have:l=[]:=List.length_eq_zero_iff.1 (by omega);subst this;exact⟨rfl,fun b u=>by simp[Sw.chunks] at u,rfl⟩
 |m+1,l,h=>by
  have e:l=l.take 8++l.drop 8:=(Y7 8 l).symm;have z:(l.take 8).length=8:=by simp;omega
  obtain⟨A,B,C⟩:=Dl m (l.drop 8) (by simp;omega);rw[e,Kk z];refine⟨by rw[aC1,A],fun b u=>?_,by simp[C]⟩;rcases n7.1 u with rfl | u
  ·exact z
  ·exact B b u
theorem IH{l:List Int}{bs:List aQ}(h:bs.flatten=l)(hb:Bytes l):∀b∈bs,Bytes b:=fun b u x z=>hb x (by rw[<-h];exact List.mem_flatten.2 ⟨b,u,z⟩)
def Jh:List Int->Option fF
 |b0::b1::r=>match Ab (b0.toNat % 16) [] r with
  |some (rest,h)=>if b1>32\/h.length>12\/(rest.length:Int)≠8*b1 then none else some (((b0.toNat / 16:Nat):Int),h,Sw.chunks 8 rest)
  |none=>none
 |_=>none
theorem BC{n:Nat}(h:n<256):IntKind.wrap .u8 (n:Int)=n:=by rw[Dk];omega
theorem Sq{f:fF}(g:Good f):Hu f=[((16*f.1.toNat+f.2.1.length:Nat):Int),(f.2.2.length:Int)]:=by
 have h:=g.s0;have u:=g.s1;have z:=g.ns;have A:=g.bs;unfold Hu;have e:ar .add .i64 (ar .mul .i64 16 f.1) (f.2.1.length:Int)=((16*f.1.toNat+f.2.1.length:Nat):Int):=by
  have:ar .mul .i64 16 f.1=16*f.1:=wrap_i64 (by omega);rw[this,ZV (by omega)];omega
 rw[e,BC (by omega),BC (by omega)]
theorem DP{b:List Int}{f:fF}(hb:Bytes b)(h:Jh b=some f):Good f/\dU f=0/\body f=b:=by
 match b,h with
 |b0::b1::r,h=>
  have P:=hb.head;have Q:=hb.tail.head;have z:=hb.tail.tail;simp only[Jh] at h;cases hn:Ab (b0.toNat % 16) [] r with
  |none=>rw[hn] at h;cases h
  |some p=>
   obtain⟨rest,K⟩:=p;rw[hn] at h;simp only at h;split at h
   ·cases h
   ·rename_i R;simp only[B9] at h;subst h;obtain⟨S,B,L,C,D⟩:=Nk _ _ _ _ _ z hn;simp only[aj] at B;subst B;obtain⟨E,M,N⟩:=Dl b1.toNat rest (by omega);have F:Bytes rest:=fun x u=>z x (by rw[D];simp[u]);have A:Good (((b0.toNat / 16:Nat):Int),K,Sw.chunks 8 rest):=⟨by simp only;omega,by simp only;omega,by simp only;omega,by simp only;omega,C,fun b hb=>⟨M b hb,IH E F b hb⟩⟩;refine⟨A,?_,?_⟩
    ·unfold dU;rw[WL (by simp only;omega),WL (by simp only;omega),WL];intro I;obtain⟨x,u,O⟩:=aDd.1 I;have:=C x u;simp[wP] at O;omega
    ·unfold body;rw[Sq A];simp only[E,N,L,fj,aj];rw[D];have G:((16*(((b0.toNat / 16:Nat):Int)).toNat+b0.toNat % 16:Nat):Int)=b0:=by rw[n9];omega
     have H:((b1.toNat:Nat):Int)=b1:=by omega
     rw[G,H]
theorem Vk{f:fF}(g:Good f):Jh (body f)=some f:=by
 have B:=g.s0;have C:=g.s1;have D:=g.ns;have E:=g.bs;unfold body;rw[Sq g];simp only[fj,aj,Jh,n9];have h:(16*f.1.toNat+f.2.1.length) % 16=f.2.1.length:=by omega
 have u:(16*f.1.toNat+f.2.1.length) / 16=f.1.toNat:=by omega
 rw[h,u,Vj _ _ _ g.num];simp only[aj];have F:=(s8 g.YU).2;rw[WL (by omega),Kl _ (fun b A=>(g.YU b A).1)];have z:((f.1.toNat:Nat):Int)=f.1:=by omega
 rw[z]
end Go.WX
namespace Go.WX
open Go.Pl
open Go Go.Sw Go.Mo
def fA(a:List Int):Option fF:=
 if a.length<6 then none else if a.drop (a.length - 4)=w9 (4294967295 - Aa (nat (a.take (a.length - 4)))) then Jh (a.take (a.length - 4)) else none
theorem PW{n c:Nat}(hc:c<=32):sh .shr .u32 (n:Int) (c:Int)=((n / 2 ^ c:Nat):Int):=by
 show Int.fdiv _ _=_;rw[n9,show IntKind.bits .u32=32 from rfl,qm hc,vn _ (aEc (aEx (by decide)))];push_cast;rfl
theorem MU{S:Nat}(h:S<4294967296): [(IntKind.wrap .u8 (sh .shr .u32 (S:Int) (24:Int))),(IntKind.wrap .u8 (sh .shr .u32 (S:Int) (16:Int))),(IntKind.wrap .u8 (sh .shr .u32 (S:Int) (8:Int))),(IntKind.wrap .u8 (S:Int))]=w9 S:=by
 rw[show (24:Int)=((24:Nat):Int) from rfl,show (16:Int)=((16:Nat):Int) from rfl,show (8:Int)=((8:Nat):Int) from rfl,PW (by decide),PW (by decide),PW (by decide),Dk,Dk,Dk,Dk];unfold w9;have e:S / 2 ^ 24 % 256=S / 16777216:=by omega
 rw[e]
theorem SK:∀a:Fin 256,ar .and .u8 ((a.1:Nat):Int) 15=((a.1 % 16:Nat):Int):=by decide+kernel
theorem PX{b:Int}(h:0<=b/\b<=255):ar .and .u8 b 15=((b.toNat % 16:Nat):Int):=by
 have:=SK ⟨b.toNat,by omega⟩;have e:((b.toNat:Nat):Int)=b:=by omega
 simpa[e] using this
theorem UE:∀a:Fin 256,sh .shr .u8 ((a.1:Nat):Int) 4=((a.1 / 16:Nat):Int):=by decide+kernel
theorem SL{b:Int}(h:0<=b/\b<=255):sh .shr .u8 b 4=((b.toNat / 16:Nat):Int):=by
 have:=UE ⟨b.toNat,by omega⟩;have e:((b.toNat:Nat):Int)=b:=by omega
 simpa[e] using this
theorem UF{n:Nat}(h:n<200):ar .add .u8 (n:Int) 1=((n+1:Nat):Int):=by
 show IntKind.wrap .u8 ((n:Int)+1)=_;have:(n:Int)+1=((n+1:Nat):Int):=by push_cast;rfl
 rw[this,BC (by omega)]
theorem Qt{z:fF×Option Int}(N:Nat)(hN:N<=15):∀(n j:Nat) (l acc:List Int) (f:Nat),j+n=N->Bytes l->l.length<=1000000->acc.length+n<=1000->n<f->
  loop (β:=Ex ((List Int)×(List Int)) (fF×Option Int)) (fun (E7:Int×(List Int)×(List Int))=>
                bif (cm .lss E7.1 (N:Int)) then
                 (gE E7.2.1).bind fun ZY=>
                  bif (!ZY.2.1) then
                   some (.done (.ret z))
                  else
                   (Sw.app E7.2.2 ([ZY.1]:(List Int))).bind fun I1=>
                    some (.next ((ar .add .u8 E7.1 (1:Int)),ZY.2.2,I1))
                else
                 some (.done (.WM (E7.2.1,E7.2.2)))
                ) f ((j:Int),l,acc)=some (match Ab n acc l with | some p=> .WM p | none=> .ret z)
 | 0,j,l,acc,f,B,u,A,C,D=>by
  obtain⟨f,rfl⟩:∃f',f=f'+1:=⟨f - 1,by omega⟩;have:cm .lss (j:Int) (N:Int)=false:=by rw[cl];simp;omega
  simp only[loop,this,pF,Ab]
 |n+1,j,l,acc,f,B,u,A,C,D=>by
  obtain⟨f,rfl⟩:∃f',f=f'+1:=⟨f - 1,by omega⟩;have:cm .lss (j:Int) (N:Int)=true:=by rw[cl];simp;omega
  simp only[loop,this,XP,PV l u A,cM,Ab];by_cases h:(wX 5 0 0 l).2.1=true
  ·simp only[h,kt,pF,j0];rw[VN _ _ (by simp;omega),cM,UF (by omega)];exact Qt N hN n (j+1) _ _ f (by omega) (Gl _ _ _ _ u) (dv (Vi _ _ _ _) A) (by simp;omega) (by omega)
  ·simp only[ur] at h;simp only[h,vm,XP,O4,c9]
theorem BD:∀(its acc:List aQ),(∀i∈its,i.length=8)->acc.length+its.length<=1000000->
  az (δ:=Empty) (fun (vu:(List Int)) (dg:(List aQ))=>
    (Sw.u0 8 vu).bind fun z46=>
     (Sw.app dg ([z46]:(List aQ))).bind fun wu=>
      some (.next wu)
    ) its acc=some (.WM (acc++its))
 | [],acc,_,_=>by simp[az]
 |i::is,acc,h,u=>by
  have A:=h i (by simp);have e:Sw.u0 8 i=some i:=by unfold Sw.u0;rw[WU (by omega),aCa (by omega)]
  simp only[az,e,cM];rw[VN _ _ (by simp at u ⊢;omega)];simp only[cM];rw[BD is _ (fun j z=>h j (by simp[z])) (by simp at u ⊢;omega)];simp
theorem qG(a:List Int)(hb:Bytes a)(hl:a.length<=10000):fM a=some (match fA a with | some f=>(f,none) | none=>((0,[],[]),some 3)):=by
 unfold fM fA;rw[cl];by_cases G:a.length<6
 ·have:(a.length:Int)<6:=by omega
  simp[G,this]
 have O:¬(a.length:Int)<6:=by omega
 simp only[G,O,B8,pF,c9];generalize hL:a.length - 4=L;have P:ar .sub .i64 (a.length:Int) 4=(L:Int):=by rw[M8 (by omega)];omega
 have Q:Sw.sub a 0 (L:Int)=some (a.take L):=by unfold Sw.sub;rw[WU (by omega)];simp
 have B:(a.take L).length=L:=by simp;omega
 have R:Sw.sub a (L:Int) (a.length:Int)=some (a.drop L):=by unfold Sw.sub;rw[WU (by omega)];simp
 have ab:(a.drop L).length=4:=by simp;omega
 have S:Sw.u0 4 (a.drop L)=some (a.drop L):=by unfold Sw.u0;rw[WU (by omega),aCa (by omega)]
 have C:Bytes (a.take L):=fun x hx=>hb x (aCo hx);have T:=IF (a.take L) C (by omega);rw[P,Q,cM,T,cM,B,R,cM,S,cM,MU (by omega)];by_cases H:a.drop L=w9 (4294967295 - Aa (nat (a.take L)))
 ·simp only[H,cj,kt,pF,j0];generalize hp:a.take L=p at*
  match p,B with
  | [],h=>simp at h;omega
  | [_],h=>simp at h;omega
  |b0::b1::r,B=>
   have I:=C.head;have J4:=C.tail.head;have K:=C.tail.tail;have N5:r.length<=10000:=by simp at B;omega
   rw[Sp _ (by simp;omega),cM];simp only[Vh];rw[Sp _ (by simp;omega),cM];simp only[Vh,PX I,SL I,Jh];have U:=Qt (z:=((0,[],[]),some 3)) (b0.toNat % 16) (by omega) (b0.toNat % 16) 0 r [] fJ (by omega) K (by omega) (by simp;omega) (by unfold fJ;omega);unfold lp;rw[show ((0:Int),r,([]:List Int))=(((0:Nat):Int),r,([]:List Int)) from rfl,U];cases hn:Ab (b0.toNat % 16) [] r with
   |none=>rfl
   |some q=>
    obtain⟨u,E⟩:=q;obtain⟨ac,N,h2,h3,h4⟩:=Nk _ _ _ _ _ K hn;simp only[aj] at N;subst N;have ZZ:u.length<=r.length:=by rw[h4];simp
    have V:ar .mul .i64 b1 8=8*b1:=by show IntKind.wrap .i64 _=_;rw[wrap_i64 (by omega)];omega
    simp only[cg,cn,V];by_cases D:b1>32
    ·simp[D]
    by_cases F:E.length>12
    ·have A:(E.length:Int)>12:=by omega
     simp[D,F,A]
    by_cases M:(u.length:Int)≠8*b1
    ·have A:¬(E.length:Int)>12:=by omega
     simp[D,F,A,M]
    have A:¬(E.length:Int)>12:=by omega
    have X:(u.length:Int)=8*b1:=aC6.1 M;obtain⟨g1,g2,g3⟩:=Dl b1.toNat u (by omega);have bz:jW u 8=some (u,8):=rfl;have aa:small u=some ():=by unfold small;rw[WU (by omega)]
    have tk:ox 8=some ():=by decide
    simp only[D,F,A,X,ne_eq,aEz,B8,pF,cM,aE0,c9,bz,aa,tk,rg];rw[show Int.toNat 8=8 from rfl,BD _ _ g2 (by simp;omega)];simp
 ·simp only[H,B8,vm,XP,c9]
theorem Gm{a:List Int}{f:fF}(hb:Bytes a)(h:fA a=some f):Good f/\dU f=0/\bP f=a:=by
 unfold fA at h;split at h
 ·cases h
 ·split at h
  ·rename_i D u;obtain⟨A,B,C⟩:=DP (fun x z=>hb x (aCo z)) h;refine⟨A,B,?_⟩;unfold bP;rw[C,<-u,Y7]
  ·cases h
theorem kG{f:fF}(g:Good f):fA (bP f)=some f:=by
 have A:2<=(body f).length:=by unfold body;rw[Sq g];simp
 have h:(bP f).length=(body f).length+4:=by simp[bP,w9]
 have u:(bP f).take ((bP f).length - 4)=body f:=by rw[h,aDt];unfold bP;simp
 have z:(bP f).drop ((bP f).length - 4)=w9 (4294967295 - Aa (nat (body f))):=by rw[h,aDt];unfold bP;simp
 unfold fA;rw[WL (by omega),u,z,WU rfl,Vk g]
end Go.WX
namespace Go.WX
open Go.Pl
open Go Go.Sw Go.Mo
theorem q9{α β:Type}{step:α->Option (Step α β)}{x y:α}{f:Nat}(h:step x=some (.next y)):loop step (f+1) x=loop step f y:=by simp only[loop,h]
theorem l8{α β:Type}{step:α->Option (Step α β)}{x:α}{b:β}{f:Nat}(h:step x=some (.done b)):loop step (f+1) x=some b:=by simp only[loop,h]
end Go.WX
namespace Go.WX
open Go.Pl
open Go Go.Sw Go.Mo
end Go.WX
namespace Go.WX
open Go.Pl
open Go Go.Sw Go.Mo
theorem Yj{S:Nat}(h:S<4294967296):Bytes (w9 S):=fun x u=>by
 simp only[w9,n7,aCs,aEt] at u;rcases u with rfl | rfl | rfl | rfl<;>omega
theorem wY{f:fF}(g:Good f):Bytes (bP f):=fun x h=>by
 unfold bP at h;rcases M4.1 h with h | h
 ·exact(rF g).1 x h
 ·exact Yj (by omega) x h
end Go.WX
namespace Go.WX
open Go.Pl
open Go Go.Sw Go.Mo
theorem II(x:Int):pU x=some (wP x):=by
 unfold pU wP;by_cases h:x<0
 ·have:cm .lss x 0=true:=by simp[cm,h]
  simp[this,h]
 ·have:cm .lss x 0=false:=by simp[cm];omega
  simp[this,h,cm]
theorem Sr(l:List Int)(h:l.length<=1000000):cX l=some (l.any wP):=by
 unfold cX eA;rw[show (0:Int)=((0:Nat):Int) from rfl,Bl (l:=l) (fun i (_:Unit)=>(i:Int)) () (fun i x _=>if wP x then .done (.ret (i:Int)) else .next ()) (fun _=> .WM ()) (by unfold fJ;omega)]
 ·rw[Vd (fun i=>(i:Int)),Ve];cases l.findIdx? wP<;>simp[out,cm]
 ·rintro u x z acc rfl;simp only[pL,XP,mW,cM,II,HF (n:=u.length) (m:=1000000) (by simp at h;omega) (by omega)];cases wP x<;>simp[It]
 ·intro _;simp[dS]
theorem l7(a b:Int):qE [a,b]=some (!(wP a || wP b)):=by
 unfold qE;rw[Sr _ (by simp)];simp
theorem m6{x:Int}:wP x=false↔0<=x/\x<=2147483647:=by unfold wP;simp
theorem PY{α A β γ:Type}{step:α->Option (Step α (Ex β γ))}{l:List A}{k:β->Option γ}(st:Nat->α)(z:A->Option γ)(y:β)(hf:l.length<fJ)
  (hs:∀pre x rest,l=pre++x::rest->step (st pre.length)=some (match z x with | some v=> .done (.ret v) | none=> .next (st (pre.length+1)))) (he:step (st l.length)=some (.done (.WM y))):
  lp step (st 0) k=(l.findSome? z).elim (k y) some:=by
 have u:∀(rest pre:List A) (f:Nat),l=pre++rest->rest.length<f->loop step f (st pre.length)=some (match rest.findSome? z with | some v=> .ret v | none=> .WM y):=by
  intro rest
  induction rest with
  |nil=>
   intro pre f h hf;obtain⟨f,rfl⟩:∃f',f=f'+1:=⟨f - 1,by simp at hf;omega⟩;rw[Y6] at h;rw[<-h];simp[loop,he]
  |cons x rest B=>
   intro pre f h hf;obtain⟨f,rfl⟩:∃f',f=f'+1:=⟨f - 1,by simp at hf;omega⟩;simp only[loop,hs pre x rest h,List.findSome?_cons];cases hz:z x with
   |some v=>simp
   |none=>
    have:=B (pre++[x]) f (by rw[h];simp) (by simp at hf;omega);simpa using this
 have:=u l [] fJ rfl hf;unfold lp;simp only[U8] at this;rw[this];cases l.findSome? z<;>rfl
def dL(f:fF):Int:=if dU f=0 then (if 9<f.2.1.length then 2 else 0) else dU f
theorem BE(f:fF):tW f=some (if dL f=0 then none else some (dL f)):=by
 unfold tW dL;rw[Fp,cM,cg];by_cases h:dU f=0
 ·simp only[h,j0,j1,pF];by_cases u:9<f.2.1.length
  ·have:(f.2.1.length:Int)>9:=by omega
   simp[u,this]
  ·have:¬(f.2.1.length:Int)>9:=by omega
   simp[u,this]
 ·simp[h]
def uL(l:List fF):Option Int:=l.findSome? fun f=>if dL f=0 then none else some (dL f)
abbrev uM:=Int×Int×List fF
def jI(s:uM):Int:=if wP s.1 || wP s.2.1 then 1 else if 64<s.2.2.length then 2 else (uL s.2.2).getD 0
theorem Vl{l:List fF}{e:Int}(h:uL l=some e):e≠0:=by
 obtain⟨f,_,u⟩:=List.exists_of_findSome?_eq_some h;split at u
 ·cases u
 ·cases u;assumption
theorem ZT(s:uM):pI s=some (if jI s=0 then none else some (jI s)):=by
 unfold pI jI;rw[l7,cM];by_cases u:(wP s.1 || wP s.2.1)=true
 ·simp[u]
 ·simp only[ur] at u;simp only[u,vm,kt,pF,O4,c9,cg];by_cases z:64<s.2.2.length
  ·have:(s.2.2.length:Int)>64:=by omega
   simp[z,this]
  ·have:¬(s.2.2.length:Int)>64:=by omega
   simp only[z,this,B8,pF,c9];rw[show (0:Int)=(fun (i:Nat)=>(i:Int)) 0 from rfl];rw[PY (l:=s.2.2) (fun (i:Nat)=>(i:Int)) (fun f=>if dL f=0 then none else some (some (dL f))) () (by unfold fJ;omega)]
   ·have e:s.2.2.findSome? (fun f=>if dL f=0 then none else some (some (dL f)))=(uL s.2.2).map some:=by
     unfold uL
     induction s.2.2 with
     |nil=>rfl
     |cons f l B=>simp only[List.findSome?_cons];by_cases h:dL f=0<;>simp[h,B]
    rw[e];cases hf:uL s.2.2 with
    |none=>simp
    |some e=>have:=Vl hf;simp[this]
   ·rintro C x D h;rw[h];simp only[pL,XP,mW,cM,BE];rw[r5 (by have:=congrArg List.length h;simp at this;omega)];by_cases A:dL x=0<;>simp[A]
   ·simp[dS]
def Vm(f:fF):Prop:=f.2.1.length<=1000/\f.2.2.length<=1000
theorem Vn{f:fF}(h:dL f=0):Vm f:=by
 unfold dL at h;split at h
 ·rename_i u;unfold dU at u;unfold Vm;split at u
  ·simp at u
  ·split at u
   ·simp at u
   ·omega
 ·exact absurd h (by assumption)
theorem Km{s:uM}(h:jI s=0):(0<=s.1/\s.1<=2147483647)/\(0<=s.2.1/\s.2.1<=2147483647)/\s.2.2.length<=64/\∀f∈s.2.2,Vm f:=by
 unfold jI at h;split at h
 ·simp at h
 ·rename_i u;simp only[ur,Bool.or_eq_false_iff] at u;split at h
  ·simp at h
  ·rename_i C;refine⟨m6.1 u.1,m6.1 u.2,by omega,fun f B=>Vn ?_⟩;have A:uL s.2.2=none:=by
    cases hf2:uL s.2.2 with
    |none=>rfl
    |some e=>rw[hf2] at h;exact absurd h (Vl hf2)
   have:=List.findSome?_eq_none_iff.1 A f B;by_cases z:dL f=0
   ·exact z
   ·simp[z] at this
theorem Vo(l:List fF)(hl:l.length<=64)(h:∀f∈l,Vm f):rX l=some l:=by
 unfold rX;rw[show ((0:Int),([]:List fF))=(fun (i:Nat) (acc:List fF)=>((i:Int),acc)) 0 [] from rfl];rw[C6 (l:=l) (fun (i:Nat) (acc:List fF)=>((i:Int),acc)) (fun i acc=>acc.length=i) [] (fun _ f acc=>acc++[f]) id (by unfold fJ;omega) rfl]
 ·have:∀(l:List fF) (i:Nat) (acc:List fF),(l.zipIdx i).foldl (fun acc x=>acc++[x.1]) acc=acc++l:=by
   intro l
   induction l with
   |nil=>intro i acc;simp
   |cons x l G=>intro i acc;rw[aCk,T1,G];simp
  rw[this];rfl
 ·intro u x A acc z F;have B:=h x (by rw[z];simp);have H:u.length<64:=by have:=congrArg List.length z;simp at this;omega
  have C:cm .lss (u.length:Int) (l.length:Int)=true:=by rw[z];exact pL u x A
  have D:Sw.idx l (u.length:Int)=some x:=by rw[z];exact mW u x A
  have E:mU x=some x:=by
   unfold mU lE aP;unfold Vm at B;rw[VN _ _ (by simp;omega),VN _ _ (by simp;omega)];rfl
  simp only[C,D,E,XP,cM];rw[VN _ _ (by simp;omega),r5 (by omega)];exact⟨rfl,by simp[F]⟩
 ·intro acc _;simp only[dS,pF];rfl
end Go.WX
namespace Go.WX
open Go.Pl
open Go Go.Sw Go.Mo
theorem K4{α:Type}(l:List α)(n:Nat)(h:n<=l.length):Sw.sub l (n:Int) (l.length:Int)=some (l.drop n):=by
 unfold Sw.sub;rw[WU (by omega)];simp
theorem Vp{a c:Int}(h1:0<=a/\a<=2147483647)(h2:0<=c/\c<=2147483647):dU ((0:Int),[a,c],([]:List aQ))=0/\Good ((0:Int),[a,c],([]:List aQ)):=by
 have e:dU ((0:Int),[a,c],([]:List aQ))=0:=by
  unfold dU;simp[m6.2 h1,m6.2 h2]
 exact⟨e,qP e (fun b h=>by simp at h)⟩
end Go.WX
namespace Go.WX
open Go.Pl
open Go Go.Sw Go.Mo
def By{A B:Type}(g:Nat->A->B->Option B):Nat->B->List A->Option B
 |_,acc,[]=>some acc
 |i,acc,x::l=>(g i x acc).bind fun h=>By g (i+1) h l
theorem PZ{α A B β γ:Type}{step:α->Option (Step α (Ex β γ))}{l:List A}{k:β->Option γ}(st:Nat->B->α)(I:Nat->B->Prop)(YX:B)(g:Nat->A->B->Option B)(ex:Ex β γ)(fin:B->β)(hf:l.length<fJ)(h0:I 0 YX)
  (hs:∀pre x rest acc,l=pre++x::rest->I pre.length acc->step (st pre.length acc)=some (match g pre.length x acc with | some XS=> .next (st (pre.length+1) XS) | none=> .done ex)/\∀XS,g pre.length x acc=some XS->I (pre.length+1) XS)
  (he:∀acc,I l.length acc->step (st l.length acc)=some (.done (.WM (fin acc)))):
  lp step (st 0 YX) k=(By g 0 YX l).elim (out k ex) (fun acc=>k (fin acc))/\∀acc,By g 0 YX l=some acc->I l.length acc:=by
 have E:∀(rest pre:List A) (f:Nat) (acc:B),l=pre++rest->rest.length<f->I pre.length acc->loop step f (st pre.length acc)=some ((By g pre.length acc rest).elim ex (fun acc=> .WM (fin acc)))/\∀XS,By g pre.length acc rest=some XS->I l.length XS:=by
  intro rest
  induction rest with
  |nil=>
   intro pre f acc u hf z;obtain⟨f,rfl⟩:∃f',f=f'+1:=⟨f - 1,by simp at hf;omega⟩;rw[Y6] at u;rw[<-u] at z ⊢;exact⟨by simp[loop,he acc z,By],fun XS h=>by simp only[By,B9] at h;rw[<-h];exact z⟩
  |cons x rest F=>
   intro pre f acc u hf z;obtain⟨f,rfl⟩:∃f',f=f'+1:=⟨f - 1,by simp at hf;omega⟩;obtain⟨C,D⟩:=hs pre x rest acc u z;simp only[loop,C,By];cases hg:g pre.length x acc with
   |none=>exact⟨by simp,fun XS h=>by simp at h⟩
   |some XS=>
    have:=F (pre++[x]) f XS (by rw[u];simp) (by simp at hf;omega) (by simpa using D XS hg);simpa using this
 obtain⟨C,D⟩:=E l [] fJ YX rfl hf h0;refine⟨?_,D⟩;unfold lp;simp only[U8] at C;rw[C];cases By g 0 YX l with
 |none=>cases ex<;>rfl
 |some _=>rfl
def WS(s:uM)(i:Nat)(f:fF):fF:=(1,[s.1,s.2.1+(i:Int),f.1]++f.2.1,f.2.2)
def Qu(s:uM)(i:Nat)(f:fF)(acc:List (List Int)):Option (List (List Int)):=if s.2.1+(i:Int)>2147483647 then none else some (acc++[bP (WS s i f)])
theorem l9{f:fF}(h:dL f=0):dU f=0/\f.2.1.length<=9:=by
 unfold dL at h;split at h
 ·rename_i u;refine⟨u,?_⟩;split at h
  ·simp at h
  ·omega
 ·exact absurd h (by assumption)
theorem G6{s:uM}{i:Nat}{f:fF}(h1:0<=s.1/\s.1<=2147483647)(h2:0<=s.2.1)(hi:s.2.1+(i:Int)<=2147483647)(hf:dL f=0)(hb:∀b∈f.2.2,b.length=8/\Bytes b):dU (WS s i f)=0/\Good (WS s i f):=by
 obtain⟨E,G⟩:=l9 hf;have g:=qP E hb;have e:dU (WS s i f)=0:=by
  have h:f.2.1.any wP=false:=by
   rw[aEm];intro n D;have:=m6.2 (g.num n D);simp[this]
  have u:=m6.2 h1;have z:wP (s.2.1+(i:Int))=false:=m6.2 ⟨by omega,hi⟩;have A:wP f.1=false:=m6.2 ⟨g.s0,by have:=g.s1;omega⟩;have F:=g.bs;unfold dU WS;have B:¬((1:Int)<0\/(1:Int)>15):=by omega
  have C:¬(([s.1,s.2.1+(i:Int),f.1]++f.2.1).length>12\/f.2.2.length>32):=by simp;omega
  simp only[B,C,c9];simp[u,z,A,h]
 exact⟨e,qP e hb⟩
def VA(s:uM):Prop:=∀f∈s.2.2,dL f=0/\∀b∈f.2.2,b.length=8/\Bytes b
def Tm(s:uM):List fF:=s.2.2.take (min s.2.2.length 4)
theorem QA{s:uM}{pre rest:List fF}{x:fF}(h:Tm s=pre++x::rest):pre.length<min s.2.2.length 4/\s.2.2[pre.length]? =some x/\x∈s.2.2:=by
 have z:pre.length<min s.2.2.length 4:=by have:=congrArg List.length h;simp[Tm] at this;omega
 have u:(Tm s)[pre.length]? =some x:=by rw[h];simp
 unfold Tm at u;rw[List.getElem?_take,WU z] at u;exact⟨z,u,aB7 u⟩
theorem MV(s:uM):(Tm s).length=min s.2.2.length 4:=by simp[Tm]
theorem BF(s:uM)(h0:jI s=0)(hq:VA s):pD s=(By (Qu s) 0 [] (Tm s)).elim (some ([],some 1)) (fun acc=>some (acc,none))/\
  ∀acc,By (Qu s) 0 [] (Tm s)=some acc->acc.length=(Tm s).length/\∀x∈acc,x.length<=1000000:=by
 obtain⟨O,P,S,T⟩:=Km h0;unfold pD;rw[ZT,WU h0,cM];have F:Sw.sub s.2.2 (0:Int) (min (s.2.2.length:Int) (4:Int))=some (Tm s):=by
  unfold Sw.sub Tm;rw[WU (by omega)];simp;omega
 rw[F];simp only[j1,pF,cM];refine PZ (l:=Tm s) (fun (i:Nat) (acc:List (List Int))=>((i:Int),acc)) (fun i acc=>acc.length=i/\∀x∈acc,x.length<=1000000) [] (Qu s) (.ret ([],some 1)) id (by rw[MV];unfold fJ;omega) ⟨rfl,fun x B=>by simp at B⟩ ?_ ?_
 ·intro u x C acc h D;obtain⟨U,V,A⟩:=QA h;have G:cm .lss (u.length:Int) ((Tm s).length:Int)=true:=by rw[h];exact pL u x C
  have H:Sw.idx (Tm s) (u.length:Int)=some x:=by rw[h];exact mW u x C
  have I:ar .add .i64 s.2.1 (u.length:Int)=s.2.1+(u.length:Int):=ZV (by omega);simp only[G,H,I,XP,cM,cg,Qu];by_cases c:s.2.1+(u.length:Int)>2147483647
  ·simp[c]
  ·obtain⟨Q,E⟩:=G6 (i:=u.length) O P.1 (by omega) (hq x A).1 (hq x A).2;have B:=l9 (hq x A).1;have K:Sw.app ([s.1,s.2.1+(u.length:Int),x.1]:List Int) x.2.1=some ([s.1,s.2.1+(u.length:Int),x.1]++x.2.1):=VN _ _ (by simp;omega);have L:mT ((1:Int),[s.1,s.2.1+(u.length:Int),x.1]++x.2.1,x.2.2)=some (bP (WS s u.length x),none):=Ev E Q;have M:Sw.app acc [bP (WS s u.length x)]=some (acc++[bP (WS s u.length x)]):=VN _ _ (by simp;omega);simp only[c,B8,pF,c9,K,L,M,cM,j1];rw[r5 (by omega)];refine⟨rfl,fun R N=>?_⟩;cases N;refine⟨by simp[D.1],fun y z=>?_⟩;rcases M4.1 z with z | z
   ·exact D.2 y z
   ·simp at z;subst z;exact Yi E
 ·intro acc _;simp only[dS,pF];rfl
end Go.WX
namespace Go.WX
open Go.Pl
open Go Go.Sw Go.Mo
theorem Yk{l:List fF}(h:∀f∈l,dL f=0):uL l=none:=by
 unfold uL;rw[List.findSome?_eq_none_iff];intro f u;rw[WU (h f u)]
variable {S M:Nat}
theorem q8{f:fF}:bP f≠ []:=by unfold bP body Hu;simp
theorem Nl{f:fF}:GW (bP f)=some ():=by
 unfold GW;rw[WL];intro h;exact q8 (List.isEmpty_iff.1 h)
end Go.WX
namespace Go.ld
open Go.Pl
open Go Go.Sw Go.Mo
def Qv:Nat:=18446744073709551616
theorem Vq(n:Nat):IntKind.wrap .u64 (n:Int)=((n % Qv:Nat):Int):=by
 simp[IntKind.wrap,IntKind.signed,IntKind.bits,Qv]
theorem SM{a b:Nat}(ha:a<Qv)(hb:b<Qv):ar .xor .u64 (a:Int) (b:Int)=((a ^^^ b:Nat):Int):=by
 have h:a ^^^ b<2 ^ 64:=aCd (by simpa[Qv] using ha) (by simpa[Qv] using hb);show IntKind.wrap .u64 ((BitVec.ofInt 64 (a:Int) ^^^ BitVec.ofInt 64 (b:Int)).toNat:Int)=_;simp only[sA,aEq,zq];rw[O5 (by simpa[Qv] using ha),O5 (by simpa[Qv] using hb),Vq,O5 (by simpa[Qv] using h)]
theorem UG{a b:Nat}:ar .mul .u64 (a:Int) (b:Int)=((a*b % Qv:Nat):Int):=by
 show IntKind.wrap .u64 ((a:Int)*(b:Int))=_;rw[show (a:Int)*(b:Int)=((a*b:Nat):Int) from by push_cast;rfl,Vq]
def OQ:Nat:=1099511628211
def SN(h b:Nat):Nat:=(h ^^^ b)*OQ % Qv
theorem IJ(h b:Nat):SN h b<Qv:=mr _ (by decide)
def IK(l:List Int):Nat:=(nat l).foldl SN 14695981039346656037
theorem IL(l:List Nat)(h:Nat)(hh:h<Qv):l.foldl SN h<Qv:=by
 induction l generalizing h with
 |nil=>exact hh
 |cons x l u=>exact u _ (IJ _ _)
theorem BG(l:List Int):IK l<Qv:=IL _ _ (by decide)
theorem Qw{A B:Type}(f:B->A->B):∀(l:List A) (i:Nat) (b:B),(l.zipIdx i).foldl (fun acc x=>f acc x.1) b=l.foldl f b
 | [],_,_=>rfl
 |x::l,i,b=>by simp only[aCk,T1];exact Qw f l (i+1) _
theorem Qx(l:List Int)(h:Bytes l)(hl:l.length<=1000000):qF l=some (IK l:Int):=by
 unfold qF;rw[show ((14695981039346656037:Int),(0:Int))=(fun (i:Nat) (r:Nat)=>((r:Int),(i:Int))) 0 14695981039346656037 from rfl];rw[C6 (l:=l) (fun (i:Nat) (r:Nat)=>((r:Int),(i:Int))) (fun _ r=>r<Qv) 14695981039346656037 (fun _ x r=>SN r x.toNat) (fun r=>(r:Int)) (by unfold fJ;omega) (by decide)]
 ·rw[Qw (fun r (x:Int)=>SN r x.toNat)];simp only[IK,nat,List.foldl_map]
 ·rintro z x C r rfl A;have B:=h x (by simp);obtain⟨b,rfl⟩:∃b:Nat,x=(b:Int):=⟨x.toNat,by omega⟩;have u:b<Qv:=by unfold Qv;omega
  refine⟨?_,IJ _ _⟩;simp only[pL,XP,mW,cM,SM A u];rw[show (1099511628211:Int)=((OQ:Nat):Int) from rfl,UG,HF (n:=z.length) (m:=1000000) (by simp at hl;omega) (by omega)];rfl
 ·intro acc _;simp only[dS,pF]
def Xa(h:Int):List Int:=(List.range 8).map fun j=>((h.toNat / 2 ^ (56 - 8*j) % 256:Nat):Int)
theorem DQ(h:Int):Bytes (Xa h):=by
 intro x u;simp only[Xa,cq] at u;obtain⟨j,_,rfl⟩:=u;have:=mr (h.toNat / 2 ^ (56 - 8*j)) (show 0<256 by decide);omega
theorem Ln(h:Int):(Xa h).length=8:=by simp[Xa]
def Qy(l:List Int):List Int:=1::l.flatMap Xa
theorem s8{A:Type}(f:A->List Int)(l:List A)(h:∀x∈l,Bytes (f x)):Bytes (l.flatMap f):=by
 intro y u;obtain⟨x,z,u⟩:=aD6.1 u;exact h x z y u
theorem Vr(l:List Int):Bytes (Qy l):=by
 intro y h;rcases n7.1 h with rfl | h
 ·decide
 ·exact s8 Xa l (fun x _=>DQ x) y h
theorem IM{A:Type}(f:A->List Int)(m:Nat)(l:List A)(h:∀x∈l,(f x).length=m):(l.flatMap f).length=l.length*m:=by
 induction l with
 |nil=>simp
 |cons x l z=>
  rw[aEn,sM,h x (by simp),z (fun y u=>h y (by simp[u])),E3,J8,qi,aDg]
theorem DR(l:List Int):(Qy l).length=1+l.length*8:=by
 rw[Qy,E3,IM Xa 8 l (fun x _=>Ln x)];omega
def DS(l:List Int):Int:=(IK (Qy l):Int)
def pd(l:List Int):Prop:=∀x∈l,0<=x/\x<18446744073709551616
theorem QB(l:List Int):0<=DS l/\DS l<18446744073709551616:=by
 have:=BG (Qy l);unfold DS;unfold Qv at this;omega
theorem aMs(n k:Nat)(hk:k<=64):sh .shr .u64 (n:Int) (k:Int)=((n / 2 ^ k:Nat):Int):=by
 show Int.fdiv _ _=_;have:min (k:Int).toNat (IntKind.bits .u64)=k:=by simp[IntKind.bits];omega
 rw[this];rw[vn _ (by exact aEc (aEx (by decide)))]
 norm_cast
theorem MW(l:List Int)(hu:pd l)(hl:l.length<=1000):tX l=some (DS l):=by
 unfold tX;rw[show ((0:Int),([(1:Int)]:List Int))=(fun (i:Nat) (r:List Int)=>((i:Int),r)) 0 [1] from rfl];rw[C6 (l:=l) (fun (i:Nat) (r:List Int)=>((i:Int),r)) (fun i r=>r.length<=1+8*i) [1] (fun _ x r=>r++Xa x) (fun r=>r) (by unfold fJ;omega) (by simp)]
 ·rw[ZL Xa l 0 [1]];have: [1]++l.flatMap Xa=Qy l:=rfl;rw[this,Qx _ (Vr l) (by rw[DR];omega)];rfl
 ·rintro h x H r rfl I;have F:=hu x (by simp);obtain⟨b,rfl⟩:∃b:Nat,x=(b:Int):=⟨x.toNat,by omega⟩;have G:h.length<=1000:=by simp at hl;omega
  refine⟨?_,by simp[Ln];omega⟩;simp only[pL,XP,mW,cM];rw[show ((56:Int),r)=(fun i:Nat=>((56:Int) - 8*i,r++(Xa b).take i)) 0 from by simp];rw[Uq (fun i:Nat=>((56:Int) - 8*i,r++(Xa b).take i)) 8 (r++Xa b) (by unfold fJ;omega)]
  ·rw[HF (n:=h.length) (m:=1000000) (by omega) (by omega)]
  ·intro i E;have u:((56:Int) - 8*(i:Int))=((56 - 8*i:Nat):Int):=by omega
   have z:cm .geq ((56:Int) - 8*(i:Int)) 0=true:=by unfold cm;simp;omega
   have A:nn ((56:Int) - 8*(i:Int))=some ():=by unfold nn;rw[WU (by omega)]
   have B:ar .sub .i64 ((56:Int) - 8*(i:Int)) 8=(56:Int) - 8*((i+1:Nat):Int):=by
    show IntKind.wrap .i64 _=_;rw[wrap_i64 (by omega)];push_cast;omega
   have C:IntKind.wrap .u8 (sh .shr .u64 (b:Int) ((56:Int) - 8*(i:Int)))=((b / 2 ^ (56 - 8*i) % 256:Nat):Int):=by
    rw[u,aMs _ _ (by omega)];simp[IntKind.wrap,IntKind.signed,IntKind.bits]
   have D:(Xa b).take (i+1)=(Xa b).take i++[((b / 2 ^ (56 - 8*i) % 256:Nat):Int)]:=by
    rw[List.take_add_one];congr 1;simp only[Xa];rw[kz,List.getElem?_range E];simp
   simp only[z,XP,A,cM,C];rw[VN _ _ (by simp[Ln];omega),cM,B,D,C0]
  ·have:cm .geq ((56:Int) - 8*((8:Nat):Int)) 0=false:=by decide
   simp only[this,pF];rw[aCa (by rw[Ln];omega)]
 ·intro acc _;simp only[dS,pF]
def Vs(l:List Int):List Int:=(Sw.chunks 4 l).map DS
theorem Yl{α:Type}{n:Nat}{xs c:List α}(h:c∈Sw.chunks n xs):∃k,c=(xs.drop (k*n)).take n:=by
 simp only[Sw.chunks,cq] at h;obtain⟨k,_,rfl⟩:=h;exact⟨k,rfl⟩
theorem pd.sub{l c:List Int}(h:pd l)(hs:∀x∈c,x∈l):pd c:=fun x u=>h x (hs x u)
theorem BH{l c:List Int}(h:pd l)(hc:c∈Sw.chunks 4 l):pd c/\c.length<=4:=by
 obtain⟨k,rfl⟩:=Yl hc;exact⟨h.sub fun x u=>aDq (aCo u),by simp;omega⟩
theorem BI{ι α:Type}{f:ι->Option α}{g:ι->α}:∀(its:List ι) (acc:List α),(∀i∈its,f i=some (g i))->acc.length+its.length<=1000000->
  az (δ:=Empty) (fun i acc=>(f i).bind fun v=>(Sw.app acc [v]).bind fun a=>some (.next a)) its acc=some (.WM (acc++its.map g))
 | [],acc,_,_=>by simp[az]
 |i::is,acc,h,u=>by
  simp only[az,h i (by simp),cM];rw[VN _ _ (by simp at u ⊢;omega)];simp only[cM];rw[BI is _ (fun j z=>h j (by simp[z])) (by simp at u ⊢;omega)];simp
theorem Fq{α:Type}(n:Nat)(xs:List α):(Sw.chunks n xs).length=(xs.length+n - 1) / n:=by simp[Sw.chunks]
theorem IN(l:List Int)(hu:pd l)(hl:l.length<=1000):rY l=some (Vs l):=by
 unfold rY iN;have u:cm .lss (4:Int) 1=false:=by decide
 have z:small l=some ():=by unfold small;rw[WU (by omega)]
 have A:ox 4=some ():=by decide
 simp only[jp,u,pF,cM,z,A,rg];rw[show Int.toNat 4=4 from rfl];rw[BI (f:=tX) (g:=DS) _ _ (fun c h=>MW c (BH hu h).1 (by have:=(BH hu h).2;omega)) (by rw[Fq];simp;omega)];simp[Vs]
theorem SO{a b:Nat}:cm .lss (a:Int) (b:Int)=decide (a<b):=PM
theorem Ss(l:List Int):(Vs l).length=(l.length+3) / 4:=by simp[Vs,Fq]
theorem OR(l:List Int):pd (Vs l):=by
 intro x h;simp only[Vs,cq] at h;obtain⟨c,_,rfl⟩:=h;exact QB c
def Ym:Nat->List Int->List (List Int)
 | 0,_=>[]
 |f+1,l=>if l.length<=1 then [] else Vs l::Ym f (Vs l)
theorem Su{a b:Nat}:cm .gtr (a:Int) (b:Int)=decide (b<a):=by unfold cm;simp
theorem MX{ab:List Int->Option (List Int)}(hab:∀l,pd l->l.length<=1000->ab l=some (Vs l)):
  ∀(n f:Nat) (l:List Int) (acc:List (List Int)),pd l->l.length<=n->n<=1000->n<f->acc.length+n<=2000->
   loop (fun (s:List Int×List (List Int))=>bif (cm .gtr (s.1.length:Int) (1:Int)) then (ab s.1).bind fun v=>(Sw.app s.2 [v]).bind fun a=>some (.next (v,a)) else (some (.done (.WM s.2)):Option (Step (List Int×List (List Int)) (Ex (List (List Int)) (List (List Int)×Option Int))))) f (l,acc)=some (.WM (acc++Ym n l))/\
   loop (fun (s:List Int×List (List Int))=>bif (cm .gtr (s.1.length:Int) (1:Int)) then (ab s.1).bind fun v=>(Sw.app s.2 [v]).bind fun a=>some (.next (v,a)) else (some (.done (.WM s.2)):Option (Step (List Int×List (List Int)) (Ex (List (List Int)) (List (List Int)))))) f (l,acc)=some (.WM (acc++Ym n l)):=by
 intro n
 induction n with
 |zero=>
  intro f l acc _ u _ z _;obtain⟨f,rfl⟩:∃f',f=f'+1:=⟨f - 1,by omega⟩;have:cm .gtr (l.length:Int) 1=false:=by rw[show (1:Int)=((1:Nat):Int) from rfl,Su];simp;omega
  simp[loop,this,Ym]
 |succ n D=>
  intro f l acc A u F z G;obtain⟨f,rfl⟩:∃f',f=f'+1:=⟨f - 1,by omega⟩;by_cases h:l.length<=1
  ·have:cm .gtr (l.length:Int) 1=false:=by rw[show (1:Int)=((1:Nat):Int) from rfl,Su];simp;omega
   simp[loop,this,Ym,h]
  ·have:cm .gtr (l.length:Int) 1=true:=by rw[show (1:Int)=((1:Nat):Int) from rfl,Su];simp;omega
   have E:=Ss l;obtain⟨B,C⟩:=D f (Vs l) (acc++[Vs l]) (OR l) (by omega) (by omega) (by omega) (by simp;omega);simp only[loop,this,XP,hab l A (by omega),cM,VN acc [Vs l] (by simp;omega),Ym,WL h];rw[B,C];simp
def leaf(b:aQ):Int:=(IK (0::b):Int)
def leaves(bs:List aQ):List Int:=bs.map leaf
theorem Vt(bs:List aQ):pd (leaves bs):=by
 intro x h;simp only[leaves,cq] at h;obtain⟨b,_,rfl⟩:=h;have:=BG (0::b);unfold leaf;unfold Qv at this;omega
def tree(bs:List aQ):List (List Int):=leaves bs::Ym bs.length (leaves bs)
def UH(bs:List aQ):Prop:=∀b∈bs,b.length=8/\Bytes b
theorem MY{b:aQ}(h:b.length=8/\Bytes b):vY b=some (leaf b):=by
 unfold vY;rw[VN _ _ (by simp;omega),cM,Qx _ (by intro x u;simp at u;rcases u with rfl | u;decide;exact h.2 x u) (by simp;omega)];rfl
theorem foldl_map{A B:Type}(f:A->B):∀(l:List A) (i:Nat) (acc:List B),(l.zipIdx i).foldl (fun acc x=>acc++[f x.1]) acc=acc++l.map f
 | [],_,_=>by simp
 |x::l,i,acc=>by simp only[aCk,T1];rw[foldl_map f l];simp
theorem aMv(bs:List aQ)(hb:UH bs)(hl:bs.length<=1000):zV bs=some (if bs.length<1\/bs.length>32 then ([],some 1) else (tree bs,none)):=by
 unfold zV;rw[show (1:Int)=((1:Nat):Int) from rfl,show (32:Int)=((32:Nat):Int) from rfl,SO,Su];by_cases h:bs.length<1
 ·simp[h]
 ·by_cases u:bs.length>32
  ·have:(32<bs.length):=u;simp[h,this]
  ·have z:¬32<bs.length:=u;simp only[h,z,B8,pF,cM];rw[show ((0:Int),([]:List Int))=(fun (i:Nat) (r:List Int)=>((i:Int),r)) 0 [] from rfl];rw[C6 (l:=bs) (fun (i:Nat) (r:List Int)=>((i:Int),r)) (fun i r=>r.length=i) [] (fun _ x r=>r++[leaf x]) (fun r=>r) (by unfold fJ;omega) rfl]
   ·rw[foldl_map leaf bs 0 []];have A:=(MX (ab:=rY) IN bs.length fJ (leaves bs) [leaves bs] (Vt bs) (by simp[leaves]) (by omega) (by unfold fJ;omega) (by simp;omega)).1;rw[show []++bs.map leaf=leaves bs from rfl];have B:((1:Nat):Int)=1:=rfl;simp only[B];unfold lp;rw[A];simp[tree]
   ·rintro C x E r rfl D;refine⟨?_,by simp[D]⟩;simp only[pL,XP,mW,cM];rw[MY (hb x (by simp)),cM,VN _ _ (by simp at hl ⊢;omega),cM,show ((1:Nat):Int)=1 from rfl,HF (n:=C.length) (m:=1000000) (by simp at hl;omega) (by omega)]
   ·intro acc _;simp only[dS,pF]
def Goes:List (List Int)->Prop
 | []=>False
 | [l]=>l.length=1
 |l::m::t=>1<l.length/\m=Vs l/\Goes (m::t)
theorem Vu:∀(n:Nat) (l:List Int),1<=l.length->l.length<=n->Goes (l::Ym n l)
 | 0,l,u,z=>by omega
 |n+1,l,u,z=>by
  simp only[Ym];by_cases h:l.length<=1
  ·simp[h,Goes];omega
  ·rw[WL h];have:=Ss l;exact⟨by omega,rfl,Vu n (Vs l) (by omega) (by omega)⟩
theorem BJ:∀(n:Nat) (l:List Int),(Ym n l).length<=n
 | 0,l=>by simp[Ym]
 |n+1,l=>by
  simp only[Ym];split
  ·simp
  ·have:=BJ n (Vs l);simp;omega
theorem Goes.at:∀{t:List (List Int)},Goes t->∀(pre rest:List (List Int)) (l:List Int),t=pre++l::rest->(rest=[]/\l.length=1)\/(∃m r,rest=m::r/\1<l.length/\m=Vs l)
 | [],h,_,_,_,_=>h.elim
 | [l0],h,pre,rest,l,e=>by
  cases pre with
  |nil=>simp at e;obtain⟨rfl,rfl⟩:=e;exact .inl ⟨rfl,h⟩
  |cons p pre=>simp at e
 |l0::m0::t,h,pre,rest,l,e=>by
  cases pre with
  |nil=>simp at e;obtain⟨rfl,rfl⟩:=e;exact .inr ⟨m0,t,rfl,h.1,h.2.1⟩
  |cons p pre=>simp at e;exact Goes.at h.2.2 pre rest l e.2
theorem Goes.ne{t:List (List Int)}(h:Goes t):t≠ []:=by rintro rfl;exact h
theorem OS:∀(n:Nat) (l:List Int) (m:Nat),l.length<=m->∀x∈Ym n l,pd x/\x.length<=m
 | 0,l,m,h,x,u=>by simp[Ym] at u
 |n+1,l,m,h,x,u=>by
  simp only[Ym] at u;split at u
  ·simp at u
  ·have z:=Ss l;rcases n7.1 u with rfl | u
   ·exact⟨OR l,by omega⟩
   ·exact OS n (Vs l) m (by omega) x u
theorem qz(bs:List aQ)(h:bs.length<=32):∀l∈tree bs,pd l/\l.length<=32:=by
 intro l u;rcases n7.1 u with rfl | u
 ·exact⟨Vt bs,by simp[leaves];omega⟩
 ·exact OS bs.length (leaves bs) 32 (by simp[leaves];omega) l u
theorem qy(bs:List aQ):(tree bs).length<=bs.length+1:=by
 have:=BJ bs.length (leaves bs);simp[tree];omega
theorem nc(bs:List aQ)(h:1<=bs.length):Goes (tree bs):=Vu _ _ (by simp[leaves];omega) (by simp[leaves])
end Go.ld
namespace Go.bCm
open Go.Pl
open Go Go.Sw Go.Mo
end Go.bCm
namespace Go.Mo
open Go Go.Sw
structure PS where
 n:Int
 fn:Int
 YC:Int
 XC:Int
 blocks:(List aQ)
 VW:(Int×(List (Int×aQ))×(List (Int×(List (Int×aQ))))×Bool)
 WO:(List (Int×(List aQ)))
 VK:Int
 VM:(Int×Int×(List (Int×(List Int)×(List aQ))))
 sent:Int
 safe:Int
 VS:(List Int)
 on:Int
 YB:Int
 WH:Int
 first:Int
 receiver:(Int×Int)
 WK:(List (Bool×Bool×(List Int)))
 r8:Int
 fd:((List aQ)×(List (Int×aQ))×Int)
 o6:Int
 od:((List aQ)×(List (Int×aQ))×Int)
def lI(a1:Int)(a2:aQ)(s:PS):Option ((Option Int)×PS):=(eS a1 a2 s.n s.fn s.YC s.XC s.blocks s.VW s.WO s.VK s.VM s.sent s.safe s.VS s.on s.YB s.WH s.first s.receiver s.WK s.r8 s.fd s.o6 s.od).bind fun v=>some (v.1,{ s with blocks:=v.2.1,VW:=v.2.2 })
def oJ(a1:Int)(s:PS):Option (aQ×(Option Int)×PS):=(fU a1 s.n s.fn s.YC s.XC s.blocks s.VW s.WO s.VK s.VM s.sent s.safe s.VS s.on s.YB s.WH s.first s.receiver s.WK s.r8 s.fd s.o6 s.od).bind fun v=>some (v.1,v.2,s)
def qQ(s:PS):Option ((Option Int)×PS):=(fP s.n s.fn s.YC s.XC s.blocks s.VW s.WO s.VK s.VM s.sent s.safe s.VS s.on s.YB s.WH s.first s.receiver s.WK s.r8 s.fd s.o6 s.od).bind fun v=>some (v.1,{ s with YC:=v.2.1,VW:=v.2.2.1,WO:=v.2.2.2.1,r8:=v.2.2.2.2.1,fd:=v.2.2.2.2.2 })
def lZ(s:PS):Option ((Option Int)×PS):=(eG s.n s.fn s.YC s.XC s.blocks s.VW s.WO s.VK s.VM s.sent s.safe s.VS s.on s.YB s.WH s.first s.receiver s.WK s.r8 s.fd s.o6 s.od).bind fun v=>some (v.1,{ s with VM:=v.2.1,sent:=v.2.2.1,VS:=v.2.2.2.1,WK:=v.2.2.2.2 })
def jM(a1:Int)(s:PS):Option (Int×Bool×PS):=(cD a1 s.n s.fn s.YC s.XC s.blocks s.VW s.WO s.VK s.VM s.sent s.safe s.VS s.on s.YB s.WH s.first s.receiver s.WK s.r8 s.fd s.o6 s.od).bind fun v=>some (v.1,v.2,s)
def sB(a1:(Int×(List Int)×(List aQ)))(s:PS):Option ((Option Int)×PS):=(fD a1 s.n s.fn s.YC s.XC s.blocks s.VW s.WO s.VK s.VM s.sent s.safe s.VS s.on s.YB s.WH s.first s.receiver s.WK s.r8 s.fd s.o6 s.od).bind fun v=>some (v.1,{ s with YB:=v.2.1,o6:=v.2.2.1,od:=v.2.2.2 })
def eD(a1:(List Int))(s:PS):Option ((Option Int)×PS):=(cN a1 s.n s.fn s.YC s.XC s.blocks s.VW s.WO s.VK s.VM s.sent s.safe s.VS s.on s.YB s.WH s.first s.receiver s.WK s.r8 s.fd s.o6 s.od).bind fun v=>some (v.1,{ s with YB:=v.2.1,first:=v.2.2.1,receiver:=v.2.2.2.1,WK:=v.2.2.2.2.1,o6:=v.2.2.2.2.2.1,od:=v.2.2.2.2.2.2 })
def eT(a1:(List Int))(s:PS):Option ((Option Int)×PS):=(cR a1 s.n s.fn s.YC s.XC s.blocks s.VW s.WO s.VK s.VM s.sent s.safe s.VS s.on s.YB s.WH s.first s.receiver s.WK s.r8 s.fd s.o6 s.od).bind fun v=>some (v.1,{ s with VW:=v.2.1,VK:=v.2.2.1,VM:=v.2.2.2.1,sent:=v.2.2.2.2.1,safe:=v.2.2.2.2.2.1,VS:=v.2.2.2.2.2.2 })
def uN(a1:(Bool×Bool×(List Int)))(s:PS):Option ((Option Int)×PS):=(fV a1 s.n s.fn s.YC s.XC s.blocks s.VW s.WO s.VK s.VM s.sent s.safe s.VS s.on s.YB s.WH s.first s.receiver s.WK s.r8 s.fd s.o6 s.od).bind fun v=>some (v.1,{ s with VW:=v.2.1,VK:=v.2.2.1,VM:=v.2.2.2.1,sent:=v.2.2.2.2.1,safe:=v.2.2.2.2.2.1,VS:=v.2.2.2.2.2.2.1,YB:=v.2.2.2.2.2.2.2.1,first:=v.2.2.2.2.2.2.2.2.1,receiver:=v.2.2.2.2.2.2.2.2.2.1,WK:=v.2.2.2.2.2.2.2.2.2.2.1,o6:=v.2.2.2.2.2.2.2.2.2.2.2.1,od:=v.2.2.2.2.2.2.2.2.2.2.2.2 })
def mY(a1:Int)(s:PS):Option ((Option Int)×PS):=(eW a1 s.n s.fn s.YC s.XC s.blocks s.VW s.WO s.VK s.VM s.sent s.safe s.VS s.on s.YB s.WH s.first s.receiver s.WK s.r8 s.fd s.o6 s.od).bind fun v=>some (v.1,{ s with VW:=v.2.1,VK:=v.2.2.1,VM:=v.2.2.2.1,sent:=v.2.2.2.2.1,safe:=v.2.2.2.2.2.1,VS:=v.2.2.2.2.2.2.1,YB:=v.2.2.2.2.2.2.2.1,first:=v.2.2.2.2.2.2.2.2.1,receiver:=v.2.2.2.2.2.2.2.2.2.1,WK:=v.2.2.2.2.2.2.2.2.2.2.1,o6:=v.2.2.2.2.2.2.2.2.2.2.2.1,od:=v.2.2.2.2.2.2.2.2.2.2.2.2 })
def rG(a1:Int)(s:PS):Option ((Option Int)×PS):=(fW a1 s.n s.fn s.YC s.XC s.blocks s.VW s.WO s.VK s.VM s.sent s.safe s.VS s.on s.YB s.WH s.first s.receiver s.WK s.r8 s.fd s.o6 s.od).bind fun v=>some (v.1,{ s with WK:=v.2 })
def lK(a1:Int)(s:PS):Option ((Option Int)×PS):=(eI a1 s.n s.fn s.YC s.XC s.blocks s.VW s.WO s.VK s.VM s.sent s.safe s.VS s.on s.YB s.WH s.first s.receiver s.WK s.r8 s.fd s.o6 s.od).bind fun v=>some (v.1,{ s with WK:=v.2 })
def lL(a1:(Int×Int×Int×aQ))(s:PS):Option ((Option Int)×PS):=(eJ a1 s.n s.fn s.YC s.XC s.blocks s.VW s.WO s.VK s.VM s.sent s.safe s.VS s.on s.YB s.WH s.first s.receiver s.WK s.r8 s.fd s.o6 s.od).bind fun v=>some (v.1,{ s with WK:=v.2 })
def uO(a1:(Int×aQ×Int×Int×Int×(List aQ)))(s:PS):Option ((Int×aQ×Int×Int×Int×(List aQ))×(Option Int)×PS):=(fX a1 s.n s.fn s.YC s.XC s.blocks s.VW s.WO s.VK s.VM s.sent s.safe s.VS s.on s.YB s.WH s.first s.receiver s.WK s.r8 s.fd s.o6 s.od).bind fun v=>some (v.1,v.2,s)
def mZ(a1:(Int×Int×Int×aQ))(s:PS):Option ((Int×aQ×Int×Int×Int×(List aQ))×(Option Int)×PS):=(hX a1 s.n s.fn s.YC s.XC s.blocks s.VW s.WO s.VK s.VM s.sent s.safe s.VS s.on s.YB s.WH s.first s.receiver s.WK s.r8 s.fd s.o6 s.od).bind fun v=>some (v.1,v.2.1,{ s with n:=v.2.2.1,fn:=v.2.2.2.1,YC:=v.2.2.2.2.1,XC:=v.2.2.2.2.2.1,blocks:=v.2.2.2.2.2.2.1,VW:=v.2.2.2.2.2.2.2.1,WO:=v.2.2.2.2.2.2.2.2.1,VK:=v.2.2.2.2.2.2.2.2.2.1,VM:=v.2.2.2.2.2.2.2.2.2.2.1,sent:=v.2.2.2.2.2.2.2.2.2.2.2.1,safe:=v.2.2.2.2.2.2.2.2.2.2.2.2.1,VS:=v.2.2.2.2.2.2.2.2.2.2.2.2.2.1,on:=v.2.2.2.2.2.2.2.2.2.2.2.2.2.2.1,YB:=v.2.2.2.2.2.2.2.2.2.2.2.2.2.2.2.1,WH:=v.2.2.2.2.2.2.2.2.2.2.2.2.2.2.2.2.1,first:=v.2.2.2.2.2.2.2.2.2.2.2.2.2.2.2.2.2.1,receiver:=v.2.2.2.2.2.2.2.2.2.2.2.2.2.2.2.2.2.2.1,WK:=v.2.2.2.2.2.2.2.2.2.2.2.2.2.2.2.2.2.2.2.1,r8:=v.2.2.2.2.2.2.2.2.2.2.2.2.2.2.2.2.2.2.2.2.1,fd:=v.2.2.2.2.2.2.2.2.2.2.2.2.2.2.2.2.2.2.2.2.2.1,o6:=v.2.2.2.2.2.2.2.2.2.2.2.2.2.2.2.2.2.2.2.2.2.2.1,od:=v.2.2.2.2.2.2.2.2.2.2.2.2.2.2.2.2.2.2.2.2.2.2.2 })
end Go.Mo
namespace Go.WX
open Go Go.Sw Go.Mo Go.Pl
theorem Yn{a b c:Nat}(h:a ^^^ c=b ^^^ c):a=b:=by
 have:=congrArg (·^^^ c) h;simpa[Nat.xor_assoc] using this
theorem QC{a b c:Nat}(h:c ^^^ a=c ^^^ b):a=b:=by
 rw[Nat.xor_comm c a,Nat.xor_comm c b] at h;exact Yn h
theorem IP{a b:Nat}(ha:a<4294967296)(hb:b<4294967296)(h:Yh a=Yh b):a=b:=by
 have top:∀x:Nat,x<2147483648->2147483648<=x ^^^ So:=by
  intro x B;have z:(x ^^^ So) / 2 ^ 31 % 2=(x / 2 ^ 31+So / 2 ^ 31) % 2:=MA x So 31;have u:x / 2 ^ 31=0:=Nat.div_eq_of_lt (by simpa using B);have A:So / 2 ^ 31=1:=by decide
  rw[u,A] at z;omega
 unfold Yh at h;by_cases z:a % 2=1
 ·by_cases u:b % 2=1
  ·rw[WU z,WU u] at h;have:=Yn h;omega
  ·rw[WU z,WL u] at h;have:=top (a / 2) (by omega);omega
 ·by_cases u:b % 2=1
  ·rw[WL z,WU u] at h;have:=top (b / 2) (by omega);omega
  ·rw[WL z,WL u] at h;omega
theorem Nn:∀(n:Nat) {a b:Nat},a<4294967296->b<4294967296->Oz n a=Oz n b->a=b
 | 0,_,_,_,_,h=>h
 |n+1,_,_,u,z,h=>Nn n u z (IP (Lm u) (Lm z) h)
theorem TM{r b:Nat}(hr:r<4294967296)(hb:b<256):r ^^^ b<4294967296:=by
 have:r ^^^ b<2 ^ 32:=aCd (by simpa using hr) (by omega);simpa using this
theorem DT{r r' b:Nat}(hr:r<4294967296)(jj:r'<4294967296)(hb:b<256)(h:zZ r b=zZ r' b):r=r':=
 Yn (Nn 8 (TM hr hb) (TM jj hb) h)
theorem DU{r b b':Nat}(hr:r<4294967296)(hb:b<256)(XZ:b'<256)(h:zZ r b=zZ r b'):b=b':=
 QC (Nn 8 (TM hr hb) (TM hr XZ) h)
theorem Vv:∀(l:List Nat) {r r':Nat},r<4294967296->r'<4294967296->(∀b∈l,b<256)->l.foldl zZ r=l.foldl zZ r'->r=r'
 | [],_,_,_,_,_,h=>h
 |b::l,_,_,z,A,u,h=>DT z A (u b (by simp)) (Vv l (Bq z (u b (by simp))) (Bq A (u b (by simp))) (fun c B=>u c (by simp[B])) h)
theorem MZ{l:List Nat}{k v:Nat}(hl:∀b∈l,b<256)(hk:k<l.length)(hv:v<256)(YZ:l[k]≠v):Aa (l.set k v)≠Aa l:=by
 intro h;have C:l=l.take k++l[k]::l.drop (k+1):=by rw[<-aCy hk,Y7]
 have D:l.set k v=l.take k++v::l.drop (k+1):=by rw[aDv,WU hk]
 unfold Aa at h;rw[D] at h;have A:(l.take k++v::l.drop (k+1)).foldl zZ 4294967295=(l.take k++l[k]::l.drop (k+1)).foldl zZ 4294967295:=by rw[<-C];exact h
 rw[aC5,aC5,T1,T1] at A;have u:=Hs (l.take k) 4294967295 (by decide) (fun b z=>hl b (aCo z));have B:l[k]<256:=hl _ (fh hk);have E:=Vv (l.drop (k+1)) (Bq u hv) (Bq u B) (fun b z=>hl b (aDq z)) A;exact YZ (DU u hv B E).symm
theorem IS{a b:Nat}(ha:a<4294967296)(hb:b<4294967296)(h:w9 a=w9 b):a=b:=by
 simp only[w9,aEw,and_true] at h;omega
theorem BK{l:List Int}(h:Bytes l):Aa (nat l)<4294967296:=Hs _ _ (by decide) (Ht h)
theorem G7{f:fF}(g:Good f){k:Nat}{v:Int}(hk:k<(bP f).length)(hv:0<=v/\v<=255)(YZ:(bP f)[k]≠v)(hb:Bytes ((bP f).set k v)):fA ((bP f).set k v)=none:=by
 cases hf:fA ((bP f).set k v) with
 |none=>rfl
 |some x=>
  exfalso;obtain⟨N,_,h⟩:=Gm hb hf;have E:(body x).length=(body f).length:=by
   have:=congrArg List.length h;simp[bP,w9] at this;omega
  have A:=(rF g).1;have H:=(rF N).1;have O:=BK A;have P:=BK H;by_cases u:k<(body f).length
  ·have e:(bP f).set k v=(body f).set k v++w9 (4294967295 - Aa (nat (body f))):=by unfold bP;rw[List.set_append_left _ _ u]
   rw[e] at h;unfold bP at h;obtain⟨D,z⟩:=List.append_inj h (by simp[E]);have Q:=IS (by omega) (by omega) z;have B:Aa (nat (body x))=Aa (nat (body f)):=by omega
   rw[D] at B;have I:nat ((body f).set k v)=(nat (body f)).set k v.toNat:=by unfold nat;rw[List.map_set]
   rw[I] at B;have K:k<(nat (body f)).length:=by simpa[nat] using u
   refine MZ (Ht A) K (by omega) ?_ B;intro M;have L:(nat (body f))[k]=((body f)[k]).toNat:=by simp[nat]
   have C:(bP f)[k]=(body f)[k]:=by simp only[bP];rw[aC7 u]
   have:=A _ (fh u);rw[L] at M;rw[C] at YZ;omega
  ·have e:(bP f).set k v=body f++(w9 (4294967295 - Aa (nat (body f)))).set (k - (body f).length) v:=by unfold bP;rw[List.set_append_right _ _ (by omega)]
   rw[e] at h;unfold bP at h;obtain⟨D,z⟩:=List.append_inj h E;rw[D] at z;have F:k - (body f).length<(w9 (4294967295 - Aa (nat (body f)))).length:=by
    have:(bP f).length=(body f).length+(w9 (4294967295 - Aa (nat (body f)))).length:=by simp[bP]
    omega
   have C:(bP f)[k]=(w9 (4294967295 - Aa (nat (body f))))[k - (body f).length]:=by simp only[bP];rw[List.getElem_append_right (by omega)]
   have G:(w9 (4294967295 - Aa (nat (body f))))[k - (body f).length]? =some v:=by rw[z,aB0 F]
   rw[E4 F,B9] at G;exact YZ (by rw[C,G])
theorem aUw{a b:Int}(ha:0<=a/\a<=255)(hb:0<=b/\b<=255):ar .xor .u8 a b=((a.toNat ^^^ b.toNat:Nat):Int):=by
 have u:((a.toNat:Nat):Int)=a:=by omega
 have z:((b.toNat:Nat):Int)=b:=by omega
 have h:a.toNat ^^^ b.toNat<2 ^ 8:=aCd (by omega) (by omega);show IntKind.wrap .u8 ((BitVec.ofInt 8 a ^^^ BitVec.ofInt 8 b).toNat:Int)=_;rw[<-u,<-z];simp only[sA,aEq,zq,n9];rw[O5 (a:=a.toNat) (by omega),O5 (a:=b.toNat) (by omega),BC (by omega)]
end Go.WX
namespace Go.WX
open Go Go.Sw Go.Mo Go.Pl
def Gn(s:uM):Option fF->uM
 |none=>s
 |some f=>if f.1=0/\f.2.2=[]/\f.2.1.length=2/\f.2.1.getD 0 0=s.1/\s.2.1<f.2.1.getD 1 0/\f.2.1.getD 1 0 - s.2.1<=min (s.2.2.length:Int) 4 then (s.1,f.2.1.getD 1 0,s.2.2.drop (f.2.1.getD 1 0 - s.2.1).toNat) else s
theorem Ac(s:uM)(b:List Int)(hb:Bytes b)(hl:b.length<=2000)(h0:jI s=0):rZ s b=some (Gn s (fA b),none):=by
 obtain⟨X,q2,S,T⟩:=Km h0;unfold rZ;rw[ZT,WU h0,cM,Vo _ S T,qG b hb (by omega)];simp only[j1,pF,cM];cases hf:fA b with
 |none=>simp[Gn]
 |some f=>
  obtain⟨g,_,_⟩:=Gm hb hf;simp only[j1,pF,cn,cg,Gn];by_cases u:¬(f.1=0)
  ·simp[u]
  have u:=aC6.1 u;by_cases z:¬((f.2.1.length:Int)=2)
  ·have F:f.2.1.length≠2:=fun h=>z (by omega);simp[u,z,F]
  have z:=aC6.1 z;by_cases U:(f.2.2.length:Int)>0
  ·have C:f.2.2≠ []:=um.1 (by omega);have G:0<f.2.2.length:=by omega
   simp[u,z,G,C]
  have C:f.2.2=[]:=gw (by omega);obtain⟨n0,n1,E⟩:∃n0 n1,f.2.1=[n0,n1]:=by
   match hm:f.2.1,z with
   | [a,c],_=>exact⟨a,c,rfl⟩
   | [],c=>simp at c
   | [_],c=>simp at c
   |_::_::_::_,c=>simp at c;omega
  have H:Sw.idx [n0,n1] (0:Int)=some n0:=by simp[Sw.idx]
  have I:Sw.idx [n0,n1] (1:Int)=some n1:=by simp[Sw.idx]
  have V:0<=n1/\n1<=2147483647:=g.num n1 (by rw[E];simp);have K:((2:Nat):Int)=2:=rfl;have L:(([]:List aQ).length:Int)=0:=rfl;have M:([n0,n1]:List Int).getD 0 0=n0:=rfl;have N:([n0,n1]:List Int).getD 1 0=n1:=rfl;have O:([n0,n1]:List Int).length=2:=rfl;simp only[u,C,E,H,I,K,L,M,N,O,ne_eq,aEz,B8,pF,cM,aEy];rw[show decide ((0:Int)>0)=false from rfl];simp only[pF,cM];by_cases A:¬(n0=s.1)
  ·simp[A]
  have A:=aC6.1 A;have P:ar .sub .i64 n1 s.2.1=n1 - s.2.1:=M8 (by omega);simp only[A,aEz,B8,pF,P,zb,jp,aEy];by_cases B:s.2.1<n1/\n1 - s.2.1<=min (s.2.2.length:Int) 4
  ·have Q:n1 - s.2.1=((n1 - s.2.1).toNat:Int):=by omega
   rw[A7 (show n1 - s.2.1>0 by omega),XP,A7 B.2,cM,XP,WU B];rw[Q,K4 _ _ (by omega),cM,n9]
  ·have R:(bif decide (n1 - s.2.1>0) then some (decide (n1 - s.2.1<=min (s.2.2.length:Int) 4)) else some false)=some false:=by
    by_cases D:n1 - s.2.1>0
    ·rw[A7 D,ZQ (fun h=>B ⟨by omega,h⟩)];rfl
    ·rw[ZQ D];rfl
   rw[R,cM,pF,WL B]
def Hv(r:Int×Int):Option fF->(Int×Int)×fF×Bool×(Bool×List Int)
 |none=>(r,(0,[],[]),false,(true,[]))
 |some f=>if f.1=1/\3<=f.2.1.length/\f.2.1.getD 0 0=r.1/\f.2.1.getD 2 0<=15 then
   (if f.2.1.getD 1 0=r.2/\r.2<2147483647 then ((r.1,r.2+1),(f.2.1.getD 2 0,f.2.1.drop 3,f.2.2),true,(false,bP ((0:Int),[r.1,r.2+1],([]:List aQ))))
   else (r,(0,[],[]),false,(false,bP ((0:Int),[r.1,r.2],([]:List aQ)))))
  else (r,(0,[],[]),false,(true,[]))
theorem No(r:Int×Int)(b:List Int)(hb:Bytes b)(hl:b.length<=2000)(h1:0<=r.1/\r.1<=2147483647)(h2:0<=r.2/\r.2<=2147483647):
  oB r b=some ((Hv r (fA b)).1,(Hv r (fA b)).2.1,(Hv r (fA b)).2.2.1,(Hv r (fA b)).2.2.2,none):=by
 unfold oB;rw[l7,m6.2 h1,m6.2 h2,qG b hb (by omega)];simp only[Bool.or_self,vm,kt,pF,cM];cases hf:fA b with
 |none=>simp[Hv]
 |some f=>
  obtain⟨g,_,_⟩:=Gm hb hf;simp only[j1,pF,cn,cg,cl,Hv];by_cases u:¬(f.1=1)
  ·simp[u]
  have u:=aC6.1 u;by_cases A:(f.2.1.length:Int)<3
  ·have G:¬3<=f.2.1.length:=by omega
   simp[u,A,G]
  obtain⟨n0,n1,n2,ns,F⟩:∃n0 n1 n2 ns,f.2.1=n0::n1::n2::ns:=by
   match hm:f.2.1,A with
   |a::c::d::e,_=>exact⟨a,c,d,e,rfl⟩
   | [],c=>simp at c
   | [_],c=>simp at c
   | [_,_],c=>simp at c
  have H:Sw.idx (n0::n1::n2::ns) (0:Int)=some n0:=by simp[Sw.idx]
  have I:Sw.idx (n0::n1::n2::ns) (1:Int)=some n1:=by simp[Sw.idx]
  have K:Sw.idx (n0::n1::n2::ns) (2:Int)=some n2:=by simp[Sw.idx]
  have L:Sw.sub (n0::n1::n2::ns) (3:Int) ((n0::n1::n2::ns).length:Int)=some ns:=K4 (n0::n1::n2::ns) 3 (by simp);have M:(n0::n1::n2::ns).getD 0 0=n0:=rfl;have N:(n0::n1::n2::ns).getD 1 0=n1:=rfl;have O:(n0::n1::n2::ns).getD 2 0=n2:=rfl;have P:(n0::n1::n2::ns).drop 3=ns:=rfl;have Q:3<=(n0::n1::n2::ns).length:=by simp
  rw[F] at A;simp only[u,A,F,H,I,K,L,M,N,O,P,Q,ne_eq,aEz,B8,pF,cM,aEy];by_cases z:¬(n0=r.1)
  ·simp[z]
  have z:=aC6.1 z;by_cases E:n2>15
  ·have:¬n2<=15:=by omega
   simp[z,E,this]
  have R:n2<=15:=by omega
  simp only[z,E,R,aEz,B8,pF,cM,ce,jp,aEy,j0];by_cases B:n1=r.2/\r.2<2147483647
  ·have S:ar .add .i64 r.2 1=r.2+1:=ZV (by omega);obtain⟨e,D⟩:=Vp h1 (c:=r.2+1) (by omega);simp only[B.1,B.2,cj,XP,cM,S,Ev D e,Nl,and_self,j0]
  ·obtain⟨e,D⟩:=Vp h1 h2;have T:(bif decide (n1=r.2) then some (decide (r.2<2147483647)) else some false)=some false:=by
    by_cases C:n1=r.2
    ·have:¬r.2<2147483647:=fun h=>B ⟨C,h⟩;simp[C,this]
    ·simp[C]
   rw[T,WL B];simp only[pF,cM,Ev D e,Nl]
theorem Ji{S q:Int}(h0:jI (S,q,[])=0):pD (S,q,[])=some ([],none):=by
 have h:Tm (S,q,[])=[]:=by simp[Tm]
 have:=(BF (S,q,[]) h0 (fun f u=>by simp at u)).1;rw[this,h];rfl
theorem Np{S q:Int}{m:fF}(h0:jI (S,q,[m])=0)(hq:q<=2147483647)(hm:dL m=0)(hb:∀b∈m.2.2,b.length=8/\Bytes b):
  pD (S,q,[m])=some ([bP (WS (S,q,[m]) 0 m)],none):=by
 have u:Tm (S,q,[m])=[m]:=by simp[Tm]
 have:=(BF (S,q,[m]) h0 (fun f h=>by simp at h;subst h;exact⟨hm,hb⟩)).1;rw[this,u];have z:Qu (S,q,[m]) 0 m []=some [bP (WS (S,q,[m]) 0 m)]:=by
  unfold Qu;rw[WL (by simp;omega)];rfl
 simp[By,z]
theorem nA{S q:Int}{l:List fF}(hS:0<=S/\S<=2147483647)(hq:0<=q/\q<=2147483647)(hl:l.length<=64)(h:∀f∈l,dL f=0):jI (S,q,l)=0:=by
 unfold jI;rw[m6.2 hS,m6.2 hq];simp only[Bool.or_self,O4,c9];rw[WL (by omega),Yk h];rfl
theorem Jj{S q:Int}{m:fF}(hS:0<=S/\S<=2147483647)(hq:0<=q/\q<2147483647)(hm:dL m=0):uI (S,q,[]) m=some ((S,q,[m]),none):=by
 have z:jI (S,q,[])=0:=nA hS ⟨hq.1,by omega⟩ (by simp) (fun f h=>by simp at h);unfold uI;rw[ZT,WU z,cM];simp only[j1,pF];rw[BE,WU hm,cM];have A:ar .add .i64 q (([]:List fF).length:Int)=q:=by rw[ZV (by simp;omega)];simp
 have u:=Vn hm;have B:mU m=some m:=by
  unfold mU lE aP;rw[VN _ _ (by have:=u.1;simp;omega),VN _ _ (by have:=u.2;simp;omega)];rfl
 simp only[j1,pF,A,ce,J6];rw[show decide ((([]:List fF).length:Int)=64)=false from rfl,ZQ (show¬(q>=2147483647) by omega)];simp only[pF,cM];rw[Vo [] (by simp) (fun f h=>by simp at h)];simp only[cM,B,Sw.app,U8,E3,aj];rfl
end Go.WX
namespace Go.XE
open Go Go.Sw Go.Mo Go.Pl Go.YS
variable {d:lY}{blocks:List aQ}{a b n:Nat}
theorem NA(h:oH d blocks a b)(h0:1<=blocks.length)(h1:blocks.length<=32)(ha:a<=2147483647)(hb:b+1<=2147483647):
  ∃d',cV (blocks.length:Int) d [] (a:Int) (ar .add .i64 (b:Int) (1:Int))=some (none,(blocks.length:Int),d')/\oH d' blocks a (b+1):=by
 rw[r5 (by omega)];have A:Uu blocks.length [] (a:Int) ((b+1:Nat):Int)=0:=by
  unfold Uu;rw[WL (by simp),WL (by omega)];rfl
 obtain⟨d',x',y',u,z,_,_,_,e,s⟩:=yS h h0 h1 [] _ _ A;have u:a=x':=by omega
 have z:b+1=y':=by omega
 subst u z;exact⟨d',e,s⟩
theorem Vx(h:oH d blocks a b)(h0:1<=blocks.length)(h1:blocks.length<=32)(ha:a<=2147483647)(hb:b+1<=2147483647):∃d',oH d' blocks a (b+1)/\
  (∀b0 b1 b2 b3 b4 b5 b6 b7 b8 b9 WY WW XD WT XA WV WZ WR,jC b0 b1 b2 b3 b4 b5 b6 b7 b8 b9 WY WW XD WT XA WV WZ WR (blocks.length:Int) d=some (none,(a:Int),((b+1:Nat):Int),(blocks.length:Int),d'))/\
  (∀b0 b1 b2 b3 b4 b5 b6 b7 b8 b9 WY WW XD WT XA WV WZ WR XN XM,gD b0 b1 b2 b3 b4 b5 b6 b7 b8 b9 WY WW XD WT XA WV WZ WR XN XM (blocks.length:Int) d=some (none,(a:Int),((b+1:Nat):Int),(blocks.length:Int),d'))/\
  (∀b0 b1 b2 b3 b4 b5 b6 b7 b8 b9 WY WW XD WT XA WV WZ WR XN XM,iV b0 b1 b2 b3 b4 b5 b6 b7 b8 b9 WY WW XD WT XA WV WZ WR XN XM (blocks.length:Int) d=some (none,(a:Int),((b+1:Nat):Int),(blocks.length:Int),d')):=by
 obtain⟨d',e,s⟩:=NA h h0 h1 ha hb;have z:=Yd h ha (by omega);have u:ar .add .i64 (b:Int) (1:Int)=((b+1:Nat):Int):=r5 (by omega);rw[u] at e;refine⟨d',s,?_,?_,?_⟩<;>intros
 ·unfold jC;rw[z,cM];simp only[j1,pF,u,e,cM]
 ·unfold gD;rw[z,cM];simp only[j1,pF,u,e,cM]
 ·unfold iV;rw[z,cM];simp only[j1,pF,u,e,cM]
theorem Vy(h:oH d blocks a b)(h0:1<=blocks.length)(h1:blocks.length<=32):iB (blocks.length:Int) d (blocks.length:Int)=some (some ((blocks.length:Int),d),none,(blocks.length:Int),d):=by
 unfold iB;rw[MH h,cM,Qk h h0 h1];rfl
theorem IT(h0:1<=n)(h1:n<=32):jA (n:Int)=some (some ((n:Int),fresh n),none):=by
 unfold jA;rw[DJ h0 h1,cM];have:=Qk (Nb h1) (by simpa using h0) (by simpa using h1);simp only[oz] at this;simp only[j1,pF,this,cM];rfl
def pO(WO:List (Int×List aQ))(num:Int)(blocks:List aQ):List (Int×List aQ):=Ge ((Hb WO num blocks).getD []) (num - 5)
theorem Kn(WO:List (Int×List aQ))(num:Nat)(hl:blocks.length<=1000)(hn:num<=2147483647)(hp:(Hb WO (num:Int) blocks).isSome=true):
  (∀b0 b1 b3 b5 b7 b8 b9 WY WW XD WT XA WV WZ WR XN XM,fL b0 b1 (num:Int) b3 blocks b5 WO b7 b8 b9 WY WW XD WT XA WV WZ WR XN XM=some (pO WO num blocks))/\
  (∀b0 b1 b3 b5 b7 b8 b9 WY WW XD WT XA WV WZ WR XN XM XL XK,eH b0 b1 (num:Int) b3 blocks b5 WO b7 b8 b9 WY WW XD WT XA WV WZ WR XN XM XL XK=some (pO WO num blocks)):=by
 obtain⟨q,B⟩:=Option.isSome_iff_exists.1 hp;have h:ar .sub .i64 (num:Int) 4=(num:Int) - 4:=M8 (by omega);have u:ar .sub .i64 ((num:Int) - 4) 1=(num:Int) - 4 - 1:=M8 (by omega);have z:(num:Int) - 4 - 1=(num:Int) - 5:=by omega
 have A:aP blocks=some blocks:=by
  unfold aP;rw[VN _ _ (by simp;omega)];rfl
 refine⟨?_,?_⟩<;>intros
 ·unfold fL pO;rw[A,cM,B,cM,h,u,z];rfl
 ·unfold eH pO;rw[A,cM,B,cM,h,u,z];rfl
end Go.XE
namespace Go.XE
open Go Go.Sw Go.Mo Go.Pl Go.YS
variable {d:lY}{blocks:List aQ}{a b n:Nat}
theorem Dm(num:Nat)(blocks:List aQ):pO [] num blocks=[((num:Int),blocks)]:=by
 unfold pO Hb fK Ge;simp only[zj,aj,G0,aD0,kp];rw[WL (by omega)];rfl
theorem Hw(h:oH d blocks a b)(h0:1<=blocks.length)(h1:blocks.length<=32)(ha:a<=2147483647)(hb:b+1<=2147483647):∃d',oH d' blocks a (b+1)/\
  (∀b1 b2 b3 b4 b5 b6 b7 b8 b9 WY WW XD WT XA WV WZ WR,fC (blocks.length:Int) b1 b2 b3 b4 b5 b6 b7 b8 b9 WY WW XD WT XA WV WZ WR (blocks.length:Int) d=
   some (none,(blocks.length:Int),(a:Int),((b+1:Nat):Int),blocks,((a:Int),[],[],true),[((a:Int),blocks)],-1,(0,0,[]),0,0,[],(blocks.length:Int),d'))/\
  (∀b1 b2 b3 b4 b5 b6 b7 b8 b9 WY WW XD WT XA WV WZ WR XN XM XL XK,fZ (blocks.length:Int) b1 b2 b3 b4 b5 b6 b7 b8 b9 WY WW XD WT XA WV WZ WR XN XM XL XK (blocks.length:Int) d=
   some (none,(blocks.length:Int),(a:Int),((b+1:Nat):Int),blocks,((a:Int),[],[],true),[((a:Int),blocks)],-1,(0,0,[]),0,0,[],(blocks.length:Int),d')):=by
 obtain⟨d',s,A,_,B⟩:=Vx h h0 h1 ha hb;have u:=xQ s;have z:(Hb ([]:List (Int×List aQ)) (a:Int) blocks).isSome=true:=rfl;obtain⟨C,D⟩:=Kn (blocks:=blocks) [] a (by omega) ha z;refine⟨d',s,?_,?_⟩<;>intros
 ·unfold fC;rw[A,cM];simp only[j1,pF];rw[u,cM];simp only[];rw[C,cM,Dm]
 ·unfold fZ;rw[B,cM];simp only[j1,pF];rw[u,cM];simp only[];rw[D,cM,Dm]
theorem Hx(h:oH d blocks a b)(h0:1<=blocks.length)(h1:blocks.length<=32)(ha:a<=2147483647)(hb:b+1<=2147483647):∃d',oH d' blocks a (b+1)/\
  (∀b1 b2 b3 b4 b5 b6 b7 b8 b9 WY WW XD WT XA WV WZ WR XN XM,gK (blocks.length:Int) b1 b2 b3 b4 b5 b6 b7 b8 b9 WY WW XD WT XA WV WZ WR XN XM (blocks.length:Int) d=
   some (none,(blocks.length:Int),(a:Int),((b+1:Nat):Int),-1,(0,0),(blocks.length:Int),d'))/\
  (∀b1 b2 b3 b4 b5 b6 b7 b8 b9 WY WW XD WT XA WV WZ WR XN XM XL XK,gA (blocks.length:Int) b1 b2 b3 b4 b5 b6 b7 b8 b9 WY WW XD WT XA WV WZ WR XN XM XL XK (blocks.length:Int) d=
   some (none,(blocks.length:Int),(a:Int),((b+1:Nat):Int),-1,(0,0),(blocks.length:Int),d')):=by
 obtain⟨d',s,_,u,_⟩:=Vx h h0 h1 ha hb;refine⟨d',s,?_,?_⟩<;>intros
 ·unfold gK;rw[u,cM]
 ·unfold gA;rw[u,cM]
def WN(s:PS):=(s.n,s.fn,s.YC,s.XC,s.blocks,s.VW,s.WO,s.VK,s.VM,s.sent,s.safe,s.VS,s.on,s.YB,s.WH,s.first,s.receiver,s.WK,s.r8,s.fd,s.o6,s.od)
theorem IU(h0:1<=n)(h1:n<=32):∃d1 d2,oH d1 (List.replicate n aS) 0 1/\oH d2 (List.replicate n aS) 0 1/\
  iK (n:Int)=some (some (WN { n:=n,fn:=n,YC:=0,XC:=1,blocks:=List.replicate n aS,VW:=(0,[],[],true),WO:=[(0,List.replicate n aS)],VK:= -1,VM:=(0,0,[]),sent:=0,safe:=0,VS:=[],on:=n,YB:=0,WH:=1,first:= -1,receiver:=(0,0),WK:=[],r8:=n,fd:=d1,o6:=n,od:=d2 }),none):=by
 have u:=Nb (n:=n) h1;have h:(List.replicate n aS).length=n:=oz;obtain⟨d1,s1,z,_⟩:=Hw u (by rw[h];exact h0) (by rw[h];exact h1) (by decide) (by decide);obtain⟨d2,B,A,_⟩:=Hx u (by rw[h];exact h0) (by rw[h];exact h1) (by decide) (by decide);rw[h] at z A;refine⟨d1,d2,s1,B,?_⟩;unfold iK;rw[IT h0 h1,cM];simp only[vV,j1,pF,cM];rw[z,cM];simp only[j1,pF];rw[A,cM];rfl
end Go.XE
namespace Go.XE
open Go Go.Sw Go.Mo Go.Pl Go.m7
structure lg (m:Nat) (b:Bd) (now:List aQ) (snaps:List (List aQ)):Prop where
 may:uJ b (m:Int)=0
 num:(snaps.length:Int)=b.1+1
 V9:now.length=m
 len:∀s∈snaps,s.length=m
 open_:Ll (snaps.getD b.1.toNat []) b.2.1=now
 chain:AY snaps b.2.2.1
variable {m:Nat}{b:Bd}{now:List aQ}{snaps:List (List aQ)}
theorem lg.add(h:lg m b now snaps){p:pM}(hp:0<=p.1/\p.1<m):lg m (b.1,R2 b.2.1 p,b.2.2.1,b.2.2.2) (now.set p.1.toNat p.2) snaps:=by
 obtain⟨E,F,G,H,I,z,K,L,M⟩:=j6 h.may;have B:=YW m b.2.1 _ z;have C:=YW m (R2 b.2.1 p) _ (Uw hp z);refine⟨ML h.may hp,h.num,by rw[aCr];exact h.V9,h.len,?_,h.chain⟩;have D:Ll (snaps.getD b.1.toNat []) (R2 b.2.1 p)=Ll (snaps.getD b.1.toNat []) (b.2.1++[p]):=
  Qn (fun q u=>by have:=C q u;omega) (fun q u=>by
   rcases M4.1 u with u | u
   ·have:=B q u;omega
   ·simp at u;subst u;exact hp.1) fun i=>DM z i
 show Ll (snaps.getD b.1.toNat []) (R2 b.2.1 p)=_;rw[D];have A:=h.open_;unfold Ll at A ⊢;rw[aC5,A];rfl
theorem IV{n base:Int}:∀(l:List Ep) (j:Int),Gi n base j l=true->∀e∈l,e.1<=base+j+l.length - 1
 | [],_,_,e,h=>by simp at h
 |x::l,j,u,e,h=>by
  simp only[Gi] at u;split at u
  ·rename_i z;rcases n7.1 h with rfl | h
   ·simp only[E3];omega
   ·have:=IV l (j+1) u e h;simp only[E3];omega
  ·cases u
theorem lg.shut(h:lg m b now snaps)(hi:b.1<2147483647):lg m (Bx b) now (snaps++[now]):=by
 obtain⟨I,K,L,M,N,O,P,Q,E⟩:=j6 h.may;have H:=h.num;have A:(Bx b).1=b.1+1:=by unfold Bx;split;rfl;split<;>rfl
 have C:(Bx b).2.1=[]:=by unfold Bx;split;rfl;split<;>rfl
 have D:∀e∈b.2.2.1,e.1<=b.1:=fun e u=>by have:=IV _ _ E e u;omega
 have B:AY (snaps++[now]) b.2.2.1:=fun e u=>by
  obtain⟨F,G⟩:=h.chain e u;have:=D e u;exact⟨F,by rw[uK (by omega),uK (by omega)];exact G⟩
 refine⟨HS h.may hi,by rw[A];simp;omega,h.V9,fun s z=>?_,?_,?_⟩
 ·rcases M4.1 z with z | z
  ·exact h.len s z
  ·simp at z;subst z;exact h.V9
 ·rw[C,A,Eu (by omega)];rfl
 ·unfold Bx;split
  ·exact B
  ·split
   ·intro e u;simp at u
   ·intro e u;rcases M4.1 u with u | u
    ·exact B e u
    ·simp only[zp] at u;subst u;refine⟨by simp only;omega,?_⟩;simp only;rw[show b.1+1 - 1=b.1 by omega,uK (by omega),Eu (by omega)];exact h.open_
theorem lg.drop(h:lg m b now snaps){num:Int}(hn:0<=num/\num<=b.1):pK b (m:Int) num=some ((b.1,b.2.1,b.2.2.1.filter (fun e=>decide (num<e.1)),if num=b.1 then false else b.2.2.2),none)/\
  lg m (b.1,b.2.1,b.2.2.1.filter (fun e=>decide (num<e.1)),if num=b.1 then false else b.2.2.2) now snaps:=
 ⟨MM h.may hn,HR h.may hn,h.num,h.V9,h.len,h.open_,fun e u=>h.chain e (zh.1 u).1⟩
theorem Vz(hm:1<=m/\m<=32){num:Nat}(hn:snaps.length=num+1)(hb:num<=2147483647)(hl:∀s∈snaps,s.length=m):lg m ((num:Int),[],[],true) (snaps.getD num []) snaps:=by
 refine⟨Et (by omega) (by simp;omega) (by simp) rfl (by simp) (by simp) rfl,by simp;omega,?_,hl,rfl,fun e h=>by simp at h⟩;rw[P6,E4 (by omega)];exact hl _ (fh _)
theorem Nq{n:Int}:∀(A:List (Option pM)) (j:Nat),(∀(i:Nat) (p:pM),A[i]? =some (some p)->p.1=((j+i:Nat):Int)/\p.1<n)->∀prev:Int,prev<(j:Int)->Go.ZW.l3 n prev (A.filterMap id)=true
 | [],_,_,_,_=>rfl
 |none::A,j,h,prev,B=>by
  simp only[List.filterMap_cons,id];exact Nq A (j+1) (fun i p u=>by have:=h (i+1) p (by simpa using u);refine⟨?_,this.2⟩;rw[this.1];congr 1;omega) prev (by omega)
 |some q::A,j,h,prev,B=>by
  have z:=h 0 q rfl;simp only[List.filterMap_cons,id,Go.ZW.l3,E2,qj];refine⟨by unfold Go.ZW.O3;simp;omega,?_⟩;exact Nq A (j+1) (fun i p u=>by have:=h (i+1) p (by simpa using u);refine⟨?_,this.2⟩;rw[this.1];congr 1;omega) q.1 (by rw[z.1];omega)
theorem lg.since(h:lg m b now snaps){k:Int}(hk:0<=k/\k<=b.1):nF b (m:Int) k=some ((0,[]),false,none)\/
  ∃ps,nF b (m:Int) k=some ((b.1,ps),true,none)/\Ll (snaps.getD k.toNat []) ps=snaps.getD b.1.toNat []/\Go.ZW.l3 (m:Int) (-1) ps=true/\ps.length<=32:=by
 obtain⟨E,F,G,H,I,K,L,M,A⟩:=j6 h.may;rw[ft b m k (bp h.may),WL (by rw[h.may];simp),WL (by omega)];by_cases c:b.1 - k>b.2.2.1.length
 ·rw[WU c];exact .inl rfl
 ·rw[WL c];refine .inr ⟨_,rfl,?_⟩;have u:=Uz (k:=k) (snaps:=snaps) (by omega:(m:Int)<=32) (by omega:b.1 - b.2.2.1.length+1 - 1<=k) (by omega) b.2.2.1 A h.chain;have B:max k (b.1 - b.2.2.1.length+1+b.2.2.1.length - 1)=b.1:=by omega
  rw[B] at u;refine⟨u.1,?_,?_⟩
  ·refine Nq _ 0 (fun i p z=>?_) (-1) (by omega);have C:=u.2 i p z;have D:=Yg (n:=(m:Int)) (Lk A) z;exact⟨by simpa using C,D.2⟩
  ·refine dv (List.length_filterMap_le _ _) ?_;rw[Bp];simp
end Go.XE
namespace Go.XE
open Go Go.Sw Go.Mo Go.Pl
open Go.YS (DG DH orI orP)
abbrev j9:=Int×Int×Int×aQ
abbrev Fm:=Int×List Int×List aQ
theorem SQ{a b:Nat}(ha:a<4611686018427387904)(hb:b<4611686018427387904):ar .and .i64 (a:Int) (b:Int)=((a &&& b:Nat):Int):=by
 have h:a &&& b<2 ^ 62:=Nat.lt_of_le_of_lt Nat.and_le_left (by simpa using ha);show IntKind.wrap .i64 ((BitVec.ofInt 64 (a:Int) &&& BitVec.ofInt 64 (b:Int)).toNat:Int)=_;simp only[sA,aEr,zq];rw[O5 (a:=a) (by omega),O5 (a:=b) (by omega)];exact wrap_i64 (by omega)
theorem NB{at_ k fr:Nat}(h1:at_<32)(h2:k<4)(h3:fr<64):ar .or .i64 (ar .or .i64 (sh .shl .i64 (at_:Int) (8:Int)) (sh .shl .i64 (k:Int) (6:Int))) (fr:Int)=((at_*256+k*64+fr:Nat):Int):=by
 have h:sh .shl .i64 (at_:Int) (8:Int)=((at_*2 ^ 8:Nat):Int):=DH (c:=8) (by omega) (by omega);have u:sh .shl .i64 (k:Int) (6:Int)=((k*2 ^ 6:Nat):Int):=DH (c:=6) (by omega) (by omega);rw[h,u,orI (by omega) (by omega),orP (by omega),orI (by omega) (by omega)];have z:at_*2 ^ 8+k*2 ^ 6=(at_*4+k)*2 ^ 6:=by omega
 rw[z,orP (by omega)]
theorem QD{at_ k fr:Nat}(h1:at_<32)(h2:k<4)(h3:fr<64):sh .shr .i64 ((at_*256+k*64+fr:Nat):Int) (8:Int)=(at_:Int)/\
  ar .and .i64 (sh .shr .i64 ((at_*256+k*64+fr:Nat):Int) (6:Int)) (3:Int)=(k:Int)/\ar .and .i64 ((at_*256+k*64+fr:Nat):Int) (63:Int)=(fr:Int):=by
 have h:sh .shr .i64 ((at_*256+k*64+fr:Nat):Int) (8:Int)=(((at_*256+k*64+fr) / 2 ^ 8:Nat):Int):=DG _ 8 (by omega);have u:sh .shr .i64 ((at_*256+k*64+fr:Nat):Int) (6:Int)=(((at_*256+k*64+fr) / 2 ^ 6:Nat):Int):=DG _ 6 (by omega);have z:ar .and .i64 (((at_*256+k*64+fr) / 2 ^ 6:Nat):Int) (3:Int)=((((at_*256+k*64+fr) / 2 ^ 6) &&& 3:Nat):Int):=SQ (b:=3) (by omega) (by omega);have A:ar .and .i64 ((at_*256+k*64+fr:Nat):Int) (63:Int)=(((at_*256+k*64+fr) &&& 63:Nat):Int):=SQ (b:=63) (by omega) (by omega);rw[h,u,z,A];have B:∀x:Nat,x &&& 3=x % 4:=fun x=>aDe x 2;have C:∀x:Nat,x &&& 63=x % 64:=fun x=>aDe x 6;rw[B,C];refine⟨?_,?_,?_⟩<;>congr 1<;>omega
def pP(q:j9):Int:=q.1*256+q.2.1*64+q.2.2.1
def tY(l:List j9):List aQ:=(l.filter fun q=>decide (q.2.1=3)).map fun q=>q.2.2.2
structure ct (q:j9):Prop where
 a:0<=q.1/\q.1<32
 k:0<=q.2.1/\q.2.1<=3
 f:0<=q.2.2.1/\q.2.2.1<64
 z:q.2.1≠3->q.2.2.2=aS
def rH(l:List j9)(kn to:Int):Fm:=((4:Int),[kn,to]++l.map pP,tY l)
theorem IW{q:j9}(h:ct q):ar .or .i64 (ar .or .i64 (sh .shl .i64 q.1 (8:Int)) (sh .shl .i64 q.2.1 (6:Int))) q.2.2.1=pP q:=by
 obtain⟨a,u⟩:∃a:Nat,q.1=a:=⟨q.1.toNat,by have:=h.a;omega⟩;obtain⟨k,z⟩:∃a:Nat,q.2.1=a:=⟨q.2.1.toNat,by have:=h.k;omega⟩;obtain⟨f,A⟩:∃a:Nat,q.2.2.1=a:=⟨q.2.2.1.toNat,by have:=h.f;omega⟩;have B:=h.a;have C:=h.k;have D:=h.f;unfold pP;rw[u,z,A,NB (by omega) (by omega) (by omega)];omega
theorem NC{q:j9}(h:ct q):sh .shr .i64 (pP q) (8:Int)=q.1/\ar .and .i64 (sh .shr .i64 (pP q) (6:Int)) (3:Int)=q.2.1/\ar .and .i64 (pP q) (63:Int)=q.2.2.1:=by
 obtain⟨a,u⟩:∃a:Nat,q.1=a:=⟨q.1.toNat,by have:=h.a;omega⟩;obtain⟨k,z⟩:∃a:Nat,q.2.1=a:=⟨q.2.1.toNat,by have:=h.k;omega⟩;obtain⟨f,A⟩:∃a:Nat,q.2.2.1=a:=⟨q.2.2.1.toNat,by have:=h.f;omega⟩;have B:=h.a;have C:=h.k;have D:=h.f;have:=QD (at_:=a) (k:=k) (fr:=f) (by omega) (by omega) (by omega);unfold pP;rw[u,z,A];have e:(a:Int)*256+(k:Int)*64+(f:Int)=((a*256+k*64+f:Nat):Int):=by omega
 rw[e];exact this
theorem Hy(l:List j9)(x:j9):tY (l++[x])=tY l++(if x.2.1=3 then [x.2.2.2] else []):=by
 unfold tY;rw[zr,aCq];by_cases h:x.2.1=3<;>simp[h]
theorem Wa(l:List j9):(tY l).length<=l.length:=by unfold tY;rw[kv];exact aCx _ _
theorem IX(num kn:Int)(ps:List (Int×aQ))(base:List aQ)(hp:ps.length<=32)(he:Go.ZW.YO base []=0)(hr:Go.ZW.l3 (base.length:Int) (-1) ps=true)(hk:∀q∈Go.ZW.ZH ps base [],ct q):
  rD (num,ps) base kn=some (rH (Go.ZW.ZH ps base []) kn num,decide (((2+(Go.ZW.ZH ps base []).length:Nat):Int)<=9)):=by
 unfold rD;rw[Go.ZW.ix ps base [] (by omega) (by simp),WL (by rw[he];simp),WU hr,cM];simp only[j1,pF];have A:(Go.ZW.ZH ps base []).length<=32:=dv (Go.ZW.V8 _ _ _) hp;generalize hL:Go.ZW.ZH ps base []=L at hk A;rw[show ((0:Int),([kn,num]:List Int),([]:List aQ))=(fun (i:Nat) (acc:List Int×List aQ)=>((i:Int),acc.1,acc.2)) 0 ([kn,num],[]) from rfl];refine Di (l:=L) (fun (i:Nat) (acc:List Int×List aQ)=>((i:Int),acc.1,acc.2)) (fun h acc=>acc=([kn,num]++h.map pP,tY h)) (fun acc=>(acc.1,acc.2)) ([kn,num],[]) (by unfold fJ;omega) rfl ?_ ?_ ?_
 ·rintro h x E acc z rfl;have C:h.length<=32:=by rw[z] at A;simp at A;omega
  have B:=hk x (by rw[z];simp);have D:=Wa h;refine⟨([kn,num]++(h++[x]).map pP,tY (h++[x])),?_,rfl⟩;simp only[kL z,XP,jY z,cM,IW B];rw[VN _ _ (by simp;omega),cM,r5 (by omega),ce,Hy];by_cases u:x.2.1=3
  ·rw[A7 u,XP,VN _ _ (by simp;omega),cM,WU u];simp
  ·rw[ZQ u,pF,WL u];simp
 ·rintro acc rfl;simp only[dS,pF]
 ·rintro acc rfl;simp only[rH,zb];have e:(([kn,num]++L.map pP).length:Int)=((2+L.length:Nat):Int):=by rw[sM,kv];rfl
  rw[e]
end Go.XE
namespace Go.XE
open Go Go.Sw Go.Mo Go.Pl
theorem Yo(l:List j9)(kn to:Int)(hl:l.length<=32)(hk:∀q∈l,ct q):oC (rH l kn to)=some (l,true):=by
 unfold oC rH;have I:Sw.sub ([kn,to]++l.map pP) (2:Int) ((([kn,to]++l.map pP).length:Nat):Int)=some (l.map pP):=by
  have:=Go.WX.K4 ([kn,to]++l.map pP) 2 (by simp);simpa using this
 rw[I,cM];have K:(l.map pP).length=l.length:=kv ..;rw[show (tY l,(0:Int),([]:List j9))=(fun (i:Nat) (acc:List aQ×List j9)=>(acc.1,(i:Int),acc.2)) 0 (tY l,[]) from rfl];refine Di (l:=l) (fun (i:Nat) (acc:List aQ×List j9)=>(acc.1,(i:Int),acc.2)) (fun F acc=>acc.2=F/\tY F++acc.1=tY l) (fun acc=>(acc.1,acc.2)) (tY l,[]) (by unfold fJ;omega) ⟨rfl,rfl⟩ ?_ ?_ ?_
 ·rintro F x u ⟨G,out⟩ C ⟨B,h⟩;simp only at B h;subst B;have U:out.length<=32:=by rw[C] at hl;simp at hl;omega
  have H:=hk x (by rw[C];simp);obtain⟨R,S,T⟩:=NC H;have L:Sw.idx (l.map pP) (out.length:Int)=some (pP x):=qO (by rw[C];simp);have D:cm .lss (out.length:Int) ((l.map pP).length:Int)=true:=by rw[K];exact kL C
  simp only[D,XP,L,cM,R,S,T,jp,ce];have E:tY l=tY out++((if x.2.1=3 then [x.2.2.2] else [])++tY u):=by
   rw[C,show out++x::u=(out++[x])++u by simp];have:∀a b:List j9,tY (a++b)=tY a++tY b:=fun a b=>by unfold tY;rw[zr,aCq]
   rw[this,Hy,C0]
  rw[E] at h;have h:=List.append_cancel_left h;by_cases A:x.2.1=3
  ·rw[WU A] at h;subst h;rw[A7 A,XP];have M:decide (((([x.2.2.2]++tY u).length:Nat):Int)=0)=false:=ZQ (by simp;omega);have N:Sw.sub ([x.2.2.2]++tY u) (1:Int) ((([x.2.2.2]++tY u).length:Nat):Int)=some (tY u):=by
    have:=Go.WX.K4 ([x.2.2.2]++tY u) 1 (by simp);simpa using this
   have O:Sw.idx ([x.2.2.2]++tY u) (0:Int)=some x.2.2.2:=by simp[Sw.idx]
   rw[M,pF,O,cM,N,cM,VN _ _ (by simp;omega),cM,r5 (by omega)];refine⟨(tY u,out++[x]),rfl,rfl,?_⟩;simp only;rw[Hy,WU A,E,WU A,C0]
  ·rw[WL A,aj] at h;subst h;rw[ZQ A,pF,VN _ _ (by simp;omega),cM,r5 (by omega)];have P:=H.z A;refine⟨(tY u,out++[x]),?_,rfl,?_⟩
   ·rw[<-P]
   ·simp only;rw[Hy,WL A,Y6,E,WL A,aj]
 ·rintro⟨G,out⟩ ⟨B,h⟩;simp only at B h;subst B;have D:cm .lss (out.length:Int) ((out.map pP).length:Int)=false:=by rw[kv];exact dS
  simp only[D,pF]
 ·rintro⟨G,out⟩ ⟨B,h⟩;simp only at B h;subst B;have Q:G=[]:=by
   have:=congrArg List.length h;simp at this;exact this
  subst Q;rfl
end Go.XE
namespace Go.XE
open Go Go.Sw Go.Mo Go.Pl
open Go.YS (oH sK Uu pX xQ yS)
open Go.WX (dL)
def ZF(b:aQ):Prop:=b.length=8/\Bytes b
structure u1 (n:Nat) (snaps:List (List aQ)) (cur to:Int) (m:Fm):Prop where
 lt:cur<to
 nn:0<=cur
 le:to<snaps.length
 load:dL m=0
 YU:∀b∈m.2.2,ZF b
 say:m=((5:Int),[to],snaps.getD to.toNat [])\/∃l ps,m=rH l cur to/\l.length<=7/\(∀q∈l,ct q)/\pJ l (snaps.getD cur.toNat []) []=some (ps,[],none)/\
  sK (snaps.getD cur.toNat []) ps=snaps.getD to.toNat []/\ps.length<=n/\(∀p∈ps,0<=p.1/\p.1<(n:Int))
def nB:Nat->List aQ->List (Int×aQ)
 |_,[]=>[]
 |i,b::l=>((i:Int),b)::nB (i+1) l
theorem Hz:∀(l:List aQ) (i:Nat) (b:aQ),nB i (l++[b])=nB i l++[(((i+l.length:Nat):Int),b)]
 | [],_,_=>rfl
 |x::l,i,b=>by
  simp only[fj,nB,E3];rw[Hz l (i+1) b];congr 4;omega
theorem Dn:∀(l:List aQ) (i:Nat),(nB i l).length=l.length
 | [],_=>rfl
 |_::l,i=>by simp[nB,Dn l (i+1)]
theorem Ko:∀(l:List aQ) (i:Nat),∀p∈nB i l,(i:Int)<=p.1/\p.1<((i+l.length:Nat):Int)
 | [],_,p,h=>by simp[nB] at h
 |x::l,i,p,h=>by
  simp only[nB,n7] at h;rcases h with rfl | h
  ·simp only[E3];omega
  ·have:=Ko l (i+1) p h;simp only[E3];omega
theorem Nr:∀(l pre base:List aQ),base.length=l.length->sK (pre++base) (nB pre.length l)=pre++l
 | [],pre,base,h=>by
  have:base=[]:=gw (by simpa using h);subst this;rfl
 |x::l,pre,base,h=>by
  match base,h with
  |y::base,h=>
   simp only[nB];show sK ((pre++y::base).set ((pre.length:Int)).toNat x) (nB (pre.length+1) l)=_;have:(pre++y::base).set ((pre.length:Int)).toNat x=(pre++[x])++base:=by simp
   rw[this];have:=Nr l (pre++[x]) base (by simpa using h);simp only[sM,E3,U8] at this;rw[this];simp
variable {n:Nat}{snaps:List (List aQ)}
theorem Ns{d:(List aQ)×(List (Int×aQ))×Int}{blocks:List aQ}{a b:Nat}(h:oH d blocks a b)(h0:1<=blocks.length)(h1:blocks.length<=32)(R8:b<=2147483647)(YA:List (Int×aQ))(to:Int)(ht:0<=to/\to<=2147483647)
  (hl:YA.length<=blocks.length) (hp:∀p∈YA,0<=p.1/\p.1<(blocks.length:Int)):
  ∃d',oH d' (sK blocks YA) to.toNat b/\
   (∀b0 b1 b2 b4 b5 b6 b7 b8 b9 WY WW XD WT XA WV WZ WR XL XK,jQ YA to b0 b1 b2 (b:Int) b4 b5 b6 b7 b8 b9 WY WW XD WT XA WV WZ WR (blocks.length:Int) d XL XK=some (none,to,(blocks.length:Int),d'))/\
   (∀b0 b1 b2 b3 b4 b5 b6 b7 b8 b9 WY WW XD WT WV WZ WR XN XM,gS YA to b0 b1 b2 b3 b4 b5 b6 b7 b8 b9 WY WW XD WT (b:Int) WV WZ WR XN XM (blocks.length:Int) d=some (none,to,(blocks.length:Int),d')):=by
 have B:Uu blocks.length YA to (b:Int)=0:=by
  unfold Uu;rw[WL (by omega),WL (by omega),WL];intro C;obtain⟨p,D,A⟩:=aDd.1 C;have:=hp p D;unfold pX at A;simp at A;omega
 obtain⟨d',x',y',u,z,_,_,_,e,E⟩:=yS h h0 h1 YA to (b:Int) B;have u:to.toNat=x':=by omega
 have z:b=y':=by omega
 subst u z;refine⟨d',E,?_,?_⟩<;>intros
 ·unfold jQ;rw[e];rfl
 ·unfold gS;rw[e];rfl
end Go.XE
namespace Go.XE
open Go Go.Sw Go.Mo Go.Pl
open Go.YS (oH sK Uu pX xQ yS)
open Go.WX (dL)
variable {n:Nat}{snaps:List (List aQ)}
theorem Sv{γ:Type}(l:List aQ)(hl:l.length<=1000)(k:List (Int×aQ)->Option γ):
  lp (β:=(List (Int×aQ))) (fun (E7:Int×(List (Int×aQ)))=>
    bif (cm .lss E7.1 (l.length:Int)) then
     (Sw.idx l E7.1).bind fun z26=>
      (Sw.app E7.2 ([(E7.1,z26)]:(List (Int×aQ)))).bind fun ZY=>
       some (.next ((ar .add .i64 E7.1 (1:Int)),ZY))
    else
     some (.done (.WM E7.2))
    ) ((0:Int),([]:(List (Int×aQ)))) k=k (nB 0 l):=by
 rw[show ((0:Int),([]:List (Int×aQ)))=(fun (i:Nat) (acc:List (Int×aQ))=>((i:Int),acc)) 0 [] from rfl];refine Di (l:=l) (fun (i:Nat) (acc:List (Int×aQ))=>((i:Int),acc)) (fun h acc=>acc=nB 0 h) (fun acc=>acc) [] (by unfold fJ;omega) rfl ?_ ?_ ?_
 ·rintro h x A acc u rfl;have z:h.length<=1000:=by rw[u] at hl;simp at hl;omega
  refine⟨nB 0 (h++[x]),?_,rfl⟩;simp only[kL u,XP,jY u,cM];rw[VN _ _ (by simp[Dn];omega),cM,r5 (by omega),Hz,zl]
 ·rintro acc rfl;simp only[dS,pF]
 ·rintro acc rfl;rfl
theorem ND{s:PS}{blocks:List aQ}{a b:Nat}(h:oH s.od blocks a b)(R9:blocks=snaps.getD a [])(h0:1<=n)(h1:n<=32)(ff:∀x∈snaps,x.length=n)(ha:s.YB=(a:Int))(Y1:a<snaps.length)(ZM:snaps.length<=2147483647)(hb:s.WH=(b:Int))(R8:b<=2147483647)
  (hon:s.on=(n:Int)) (ho:s.o6=(n:Int)) {m:Fm} {to:Int} (hm:u1 n snaps (a:Int) to m):
  ∃d',oH d' (snaps.getD to.toNat []) to.toNat b/\sB m s=some (none,{ s with YB:=to,o6:=(n:Int),od:=d' }):=by
 have S:=hm.lt;have T:=hm.le;have E:∀i:Nat,i<snaps.length->(snaps.getD i []).length=n:=fun i O=>by
  rw[P6,E4 O];exact ff _ (fh _)
 have A:blocks.length=n:=by rw[R9];exact E a Y1
 have F:(snaps.getD to.toNat []).length=n:=E _ (by omega);rcases hm.say with rfl |⟨l,P,rfl,U,Q,D,z,V,R⟩
 ·
  obtain⟨d',u,_,e⟩:=Ns h (by omega) (by omega) R8 (nB 0 (snaps.getD to.toNat [])) to (by omega) (by rw[Dn];omega) (fun p C=>by have:=Ko _ _ p C;omega);rw[A] at e;have z:sK blocks (nB 0 (snaps.getD to.toNat []))=snaps.getD to.toNat []:=by
   have:=Nr (snaps.getD to.toNat []) [] blocks (by omega);simpa using this
  rw[z] at u;refine⟨d',u,?_⟩;unfold sB fD;have B:Sw.idx [to] (0:Int)=some to:=by simp[Sw.idx]
  have I:((([to]:List Int).length:Nat):Int)=1:=rfl;simp only[ce,I,hon,F,B,cg,cj,XP,cM];rw[ha,A7 (show to>(a:Int) by omega),XP];have G:=Sv (snaps.getD to.toNat []) (by omega) (γ:=(Option Int)×Int×Int×((List aQ)×(List (Int×aQ))×Int));rw[F] at G;rw[G];simp only[cM,hb,ho,e]
 ·
  obtain⟨d',u,_,e⟩:=Ns h (by omega) (by omega) R8 P to (by omega) (by omega) (fun p C=>by have:=R p C;omega);rw[A] at e;rw[n9] at D z;rw[R9,z] at u;refine⟨d',u,?_⟩;have H:=xQ h;rw[A] at H;unfold sB fD;have K:=Yo l (a:Int) to (by omega) Q;have B:Sw.idx ((rH l (a:Int) to).2.1) (0:Int)=some (a:Int):=by simp[rH,Sw.idx]
  have L:Sw.idx ((rH l (a:Int) to).2.1) (1:Int)=some to:=by simp[rH,Sw.idx]
  have M:(rH l (a:Int) to).1=4:=rfl;have N:decide ((((rH l (a:Int) to).2.1.length:Nat):Int)>=2)=true:=A7 (by simp[rH];omega);rw[<-R9] at D;simp only[ce,M,J6,N,B,L,cg,XP,cM];rw[show decide ((4:Int)=5)=false from rfl,pF,cM,pF,A7 trivial,XP,ha,A7 rfl,XP,A7 (show to>(a:Int) by omega),cM,XP,ho,H,cM];simp only[j1,pF,K,cM,D,kt];rw[show decide ((([]:List Int).length:Int)>0)=false from rfl];simp only[cM,pF,hb,e]
end Go.XE
namespace Go.XE
open Go Go.Sw Go.Mo Go.Pl
open Go.YS (sK)
open Go.ZW (l3 O3 Ks ZH Tl news YO)
open Go.WX (dL dU)
open Go.m7 (Ll)
theorem Qz{n:Int}:∀(l:List (Int×aQ)) (prev:Int) (acc:List aQ),-1<=prev->l3 n prev l=true->∀i:Nat,(i:Int)<=prev->(Ks acc l)[i]? =acc[i]?
 | [],_,_,_,_,_,_=>rfl
 |x::l,prev,acc,z,h,i,A=>by
  simp only[l3,E2,qj] at h;have u:=h.1;unfold O3 at u;simp at u;show (Ks (acc.set x.1.toNat x.2) l)[i]? =_;rw[Qz l x.1 _ (by omega) h.2 i (by omega),uo (by omega)]
theorem BL{n:Int}:∀(l:List (Int×aQ)) (prev:Int) (acc:List aQ),-1<=prev->l3 n prev l=true->(n<=acc.length)->∀p∈l,(Ks acc l)[p.1.toNat]? =some p.2
 | [],_,_,_,_,_,p,u=>by simp at u
 |x::l,prev,acc,B,h,A,p,u=>by
  simp only[l3,E2,qj] at h;have z:=h.1;unfold O3 at z;simp at z;show (Ks (acc.set x.1.toNat x.2) l)[p.1.toNat]? =_;rcases n7.1 u with rfl | u
  ·rw[Qz l p.1 _ (by omega) h.2 _ (by omega),aB0 (by omega)]
  ·exact BL l x.1 _ (by omega) h.2 (by rw[aCr];exact A) p u
theorem Wb{n:Int}:∀(l:List (Int×aQ)) (prev:Int),prev<n->l3 n prev l=true->(l.length:Int)<=n - 1 - prev
 | [],_,z,_=>by simp;omega
 |x::l,prev,z,h=>by
  simp only[l3,E2,qj] at h;have u:=h.1;unfold O3 at u;simp at u;have:=Wb l x.1 (by omega) h.2;simp only[E3];omega
variable {n:Nat}{snaps:List (List aQ)}
theorem NF{ps:List (Int×aQ)}{base:List aQ}(hr:l3 (base.length:Int) (-1) ps=true)(hb:base.length<=32):∀q∈ZH ps base [],ct q:=by
 intro q u;unfold ZH at u;obtain⟨p,A,rfl⟩:=cq.1 u;have B:=Go.ZW.K7 hr p (zh.1 A).1;unfold Tl;split
 ·exact⟨by simp only;omega,by simp,by simp,fun _=>rfl⟩
 ·split
  ·rename_i z;have:=aEe z;exact⟨by simp only;omega,by simp,by simp only;omega,fun _=>rfl⟩
  ·split
   ·rename_i h;simp at h
   ·exact⟨by simp only;omega,by simp,by simp,fun h=>by simp at h⟩
theorem IY{ps:List (Int×aQ)}{base:List aQ}:∀x∈tY (ZH ps base []),∃p∈ps,x=p.2:=by
 intro x A;unfold tY at A;obtain⟨q,z,rfl⟩:=cq.1 A;obtain⟨z,u⟩:=zh.1 z;unfold ZH at z;obtain⟨p,E,rfl⟩:=cq.1 z;refine⟨p,(zh.1 E).1,?_⟩;unfold Tl at u ⊢;split at u
 ·simp at u
 ·rename_i B;rw[WL B];split at u
  ·simp at u
  ·rename_i C;rw[WL C];split at u
   ·rename_i h;simp at h
   ·rename_i D;rw[WL D]
theorem Lo{f:Fm}(h1:0<=f.1/\f.1<=15)(h2:f.2.1.length<=9)(h3:f.2.2.length<=32)(h4:∀x∈f.2.1,0<=x/\x<=2147483647):dL f=0:=by
 have u:dU f=0:=by
  unfold dU;rw[WL (by omega),WL (by omega),WL];intro z;obtain⟨x,A,h⟩:=aDd.1 z;have:=h4 x A;rw[Go.WX.m6.2 this] at h;cases h
 unfold dL;rw[WU u,WL (by omega)]
theorem NG{b:Int×List (Int×aQ)×List (Int×List (Int×aQ))×Bool}{now:List aQ}{WO:List (Int×List aQ)}{YT:Nat}{k:Int}(he:lg n b now snaps)(h0:1<=n)(h1:n<=32)(hh:snaps.length=YT+1)(m5:YT<=2147483647)
  (R9:∀s∈snaps,∀x∈s,ZF x) (aOr:∀j l,fK WO j=some l->0<=j/\j<=YT/\l=snaps.getD j.toNat []) (aPh:fK WO (YT:Int)=some (snaps.getD YT [])) (hk: -1<=k/\k<YT):
  ∃m,(∀b0 b3 b4 b7 b8 WY WW XD WT XA WV WZ WR XN XM XL XK,dO b0 (n:Int) (YT:Int) b3 b4 b WO b7 b8 k WY WW XD WT XA WV WZ WR XN XM XL XK=some m)/\
   ∀cur:Int,0<=cur->cur<YT->(k= -1\/cur=k)->u1 n snaps cur YT m:=by
 have S:b.1=YT:=by have:=he.num;omega
 have I:∀i:Nat,i<snaps.length->snaps.getD i []∈snaps:=fun i M=>by
  rw[P6,E4 M];exact fh _
 have O:∀i:Nat,i<snaps.length->(snaps.getD i []).length=n:=fun i M=>he.len _ (I i M);have F:∀cur:Int,0<=cur->cur<YT->u1 n snaps cur YT ((5:Int),[(YT:Int)],snaps.getD YT []):=fun cur A B=>
  ⟨B,A,by omega,Lo (by simp) (by simp) (by have:=O YT (by omega);simp only;omega) (fun x C=>by simp at C;omega),fun x C=>R9 _ (I YT (by omega)) x C,.inl (by simp)⟩
 have G:(fK WO (YT:Int)).getD []=snaps.getD YT []:=by rw[aPh];rfl
 by_cases T:k<0
 ·refine⟨((5:Int),[(YT:Int)],snaps.getD YT []),?_,fun cur A B _=>F cur A B⟩
  intros
  unfold dO;rw[Go.m7.ft b n k (Go.m7.bp he.may),WL (by rw[he.may];simp),WU (.inl T)];simp only[cM,Option.isNone_some,pF,jp,G]
 ·rcases he.since (k:=k) ⟨by omega,by omega⟩ with E |⟨z,E,X,D,dj⟩
  ·refine⟨((5:Int),[(YT:Int)],snaps.getD YT []),?_,fun cur A B _=>F cur A B⟩
   intros
   unfold dO;rw[E];simp only[cM,gv,XP,pF,jp,G]
  ·cases hg:fK WO k with
   |none=>
    refine⟨((5:Int),[(YT:Int)],snaps.getD YT []),?_,fun cur A B _=>F cur A B⟩
    intros
    unfold dO;rw[E];simp only[cM,gv,XP,pF,jp,G,hg,j1]
   |some u=>
    obtain⟨_,_,H⟩:=aOr k u hg;have U:u.length=n:=by rw[H];exact O _ (by omega)
    have P:YO u []=0:=Go.ZW.dh (by omega) (by omega) (by simp) (by simp);rw[<-U] at D;have K:=NF D (by omega);have Q:=IX b.1 k z u dj P D K;by_cases N9:2+(ZH z u []).length<=9
    ·refine⟨rH (ZH z u []) k b.1,?_,fun cur A B N=>?_⟩
     ·intros
      unfold dO;rw[E];simp only[cM,gv,XP,jp,hg,aCv,zj,Q];rw[A7 (by omega),XP]
     ·have V:cur=k:=by rcases N with N | N<;>omega
      subst V;have aa:=Wa (ZH z u []);have R:Ks u z=snaps.getD b.1.toNat []:=by rw[<-X,<-H];rfl
      refine⟨by omega,A,by omega,Lo (by simp[rH]) (by simp[rH];omega) (by simp only[rH];omega) (fun x C=>?_),fun x C=>?_,.inr ⟨ZH z u [],news z u,by rw[S],by omega,K,?_,?_,?_,?_⟩⟩
      ·simp only[rH,M4,n7,aCs,aEt,cq] at C;rcases C with (rfl | rfl) |⟨q,hq,rfl⟩
       ·omega
       ·omega
       ·have h:=K q hq;have a1:=h.a;have a2:=h.k;have a3:=h.f;unfold pP;omega
      ·obtain⟨p,L,rfl⟩:=IY x C;have:=BL z (-1) u (by omega) D (zf _) p L;rw[R] at this;exact R9 _ (I _ (by omega)) _ (aB7 this)
      ·rw[<-H];exact Go.ZW.kr z u [] (by omega) (by simp) P D
      ·rw[<-H];have h1:sK u (news z u)=Ks u (news z u):=rfl;rw[h1,Go.ZW.M9 (by omega) D (fun _ _=>rfl),R];congr 1;omega
      ·have h1:=Wb z (-1) (by omega) D;have h2:(news z u).length<=z.length:=aCx _ _;omega
      ·intro p L;have:=Go.ZW.xk D p L;omega
    ·refine⟨((5:Int),[(YT:Int)],snaps.getD YT []),?_,fun cur A B _=>F cur A B⟩
     intros
     unfold dO;rw[E];simp only[cM,gv,XP,jp,hg,aCv,zj,Q];rw[ZQ (by omega),pF,G]
end Go.XE
namespace Go.XE
open Go Go.Sw Go.Mo Go.Pl
theorem SR(n c:Nat)(hc:c<=64):sh .shr .u64 (n:Int) (c:Int)=((n / 2 ^ c:Nat):Int):=Go.ld.aMs n c hc
theorem UI{a b:Nat}(ha:a<18446744073709551616)(hb:b<18446744073709551616):ar .and .u64 (a:Int) (b:Int)=((a &&& b:Nat):Int):=by
 show IntKind.wrap .u64 ((BitVec.ofInt 64 (a:Int) &&& BitVec.ofInt 64 (b:Int)).toNat:Int)=_;simp only[sA,aEr,zq];rw[O5 (a:=a) (by omega),O5 (a:=b) (by omega)];have:a &&& b<=a:=Nat.and_le_left;show ((a &&& b:Nat):Int) % 18446744073709551616=_;omega
theorem DV{h:Nat}(hh:h<18446744073709551616):pV (h:Int)=some [((h / 8589934592:Nat):Int),((h / 4 % 2147483648:Nat):Int)]:=by
 unfold pV;have u:sh .shr .u64 (h:Int) (33:Int)=((h / 2 ^ 33:Nat):Int):=SR h 33 (by omega);have z:sh .shr .u64 (h:Int) (2:Int)=((h / 2 ^ 2:Nat):Int):=SR h 2 (by omega);have A:ar .and .u64 ((h / 2 ^ 2:Nat):Int) (2147483647:Int)=((h / 2 ^ 2 &&& 2147483647:Nat):Int):=UI (b:=2147483647) (by omega) (by omega);have B:∀x:Nat,x &&& 2147483647=x % 2147483648:=fun x=>aDe x 31;rw[u,z,A,B,wrap_i64 (by omega),wrap_i64 (by omega)]
theorem IZ{bs:List aQ}(h0:1<=bs.length)(h1:bs.length<=32)(hb:∀b∈bs,ZF b):∃x y:Int,jX bs=some [x,y]/\(0<=x/\x<=2147483647)/\(0<=y/\y<=2147483647):=by
 have B:=Go.ld.nc bs h0;have D:=B.ne;obtain⟨u,l,z⟩:∃u l,Go.ld.tree bs=u++[l]:=⟨_,_,(List.dropLast_concat_getLast D).symm⟩;have E:l.length=1:=by
  rcases B.at u [] l z with⟨_,h⟩|⟨m,r,h,_⟩
  ·exact h
  ·cases h
 obtain⟨v,rfl⟩:∃v,l=[v]:=by
  match l,E with
  | [v],_=>exact⟨v,rfl⟩
 have A:=(Go.ld.qz bs h1 [v] (by rw[z];simp)).1 v (by simp);have C:=Go.ld.qy bs;rw[z] at C;have K:u.length<=32:=by simp at C;omega
 unfold jX;rw[Go.ld.aMv bs hb (by omega),WL (by omega),cM];simp only[j1,pF,z];have F:(((u++[[v]]).length:Nat):Int)=((u.length+1:Nat):Int):=by simp
 have G:ar .sub .i64 ((u.length+1:Nat):Int) 1=(u.length:Int):=by rw[M8 (by omega)];omega
 have H:Sw.idx (u++[[v]]) (u.length:Int)=some [v]:=qO (by simp);have I:Sw.idx [v] (0:Int)=some v:=by simp[Sw.idx]
 rw[F,G,H,cM,I,cM];obtain⟨h,rfl⟩:∃h:Nat,v=h:=⟨v.toNat,by have:=A;omega⟩;rw[DV (by have:=A;omega),cM];exact⟨_,_,rfl,by have:=A;omega,by omega⟩
end Go.XE
namespace Go.XE
open Go Go.Sw Go.Mo Go.Pl
open Go.YS (oH)
open Go.WX (Good bP fA dL)
def pY(fb ob:Nat):Int:=((fb*4096+ob:Nat):Int)
theorem sV{a b c d:Nat}(hb:b<4096)(hd:d<4096)(h:pY a b=pY c d):a=c/\b=d:=by unfold pY at h;omega
def kP(g:Nat):Fm:=((2:Int),[(g:Int)],[])
def fE(g o j:Nat)(t:List Int):Fm:=((3:Int),[(g:Int),(o:Int),(j:Int)]++t,[])
def WS(S:Int)(q:Nat)(m:Fm):Fm:=((1:Int),[S,(q:Int),m.1]++m.2.1,m.2.2)
def Ad(S:Int)(a:Nat):Fm:=((0:Int),[S,(a:Int)],[])
structure G1 (m:Fm):Prop where
 load:dL m=0
 YU:∀b∈m.2.2,ZF b
structure Nm where
 n:Nat
 h:Nat
 fb:Nat
 ob:Nat
 k:Nat
 q:Nat
 x:Nat
def tB(v:Nm)(s:PS)(S:Int):Prop:=∃g o:Nat,S=pY g o/\1<=g/\1<=o/\o<=v.ob/\(g<v.fb\/(g=v.fb/\S<=s.VK))/\(o=v.ob->(g:Int)<=s.first)
def Ia(v:Nm)(snaps:List (List aQ))(s:PS)(f:Fm):Prop:=
 (∃g:Nat,1<=g/\g<=v.fb/\f=kP g)\/
 (∃S q m,f=WS S q m/\G1 m/\tB v s S/\(S=s.VK->q<v.q\/(q=v.q/\s.VM.2.2=[m]))/\(0<=s.first->S=s.receiver.1->q<=v.x/\(q=v.x->∃to,u1 v.n snaps v.k to m)))
def Ib(v:Nm)(snaps:List (List aQ))(s:PS)(f:Fm):Prop:=
 (∃g o j t,f=fE g o j t/\1<=g/\g<=v.fb/\1<=o/\o<=v.ob/\j<=v.k/\jX (snaps.getD j [])=some t/\(g=v.fb->o=v.ob->s.VK<pY g o->j=v.k/\s.first=(v.fb:Int)/\v.x=0))\/
 (∃S a,f=Ad S a/\tB v s S/\(S=s.VK->a<=v.q\/(a=v.q+1/\s.VM.2.2≠ []/\s.sent<=v.k))/\(0<=s.first->S=s.receiver.1->a<=v.x))
structure u3 (v:Nm) (snaps:List (List aQ)) (s:PS) (y:Bool×Bool×List Int):Prop where
 bytes:Bytes y.2.2
 len:y.2.2.length<=2000
 ne:y.2.2≠ []
 G7:y.2.1=true->fA y.2.2=none
 whole:y.2.1=false->∃f,Good f/\y.2.2=bP f/\(y.1=true->Ia v snaps s f)/\(y.1=false->Ib v snaps s f)
structure Inv (v:Nm) (now:List aQ) (snaps:List (List aQ)) (s:PS):Prop where
 n0:1<=v.n
 n1:v.n<=32
 en:s.n=v.n
 efn:s.fn=v.n
 eon:s.on=v.n
 yx:s.r8=v.n
 ou:s.o6=v.n
 hs:snaps.length=v.h+1
 D4:v.h<=100000/\v.fb<=3000/\v.ob<=3000/\v.q<=100000/\v.x<=100000
 pos:1<=v.fb/\1<=v.ob
 enum:s.YC=v.h
 ZP:s.XC=v.fb
 U6:s.WH=v.ob
 Y3:s.YB=v.k
 kh:v.k<=v.h
 bq:oH s.fd (snaps.getD v.h []) v.h v.fb
 H4:oH s.od (snaps.getD v.k []) v.k v.ob
 ep:lg v.n s.VW now snaps
 G4:s.blocks=now
 bok:∀l∈snaps,∀b∈l,ZF b
 nok:∀b∈now,ZF b
 WO:∀p∈s.WO,0<=p.1/\p.1<=v.h/\p.2=snaps.getD p.1.toNat []
 last:fK s.WO (v.h:Int)=some (snaps.getD v.h [])
 idle:s.first=v.fb->s.VK<pY v.fb v.ob->v.x=0
 safe:0<=s.safe/\s.safe<=v.k
 sent: -1<=s.sent/\s.sent<=v.h/\(s.sent= -1->0<v.h)
 low:s.VM.2.2=[]->s.sent<=s.safe
 VK:s.VK= -1\/∃o:Nat,1<=o/\o<=v.ob/\s.VK=pY v.fb o/\(o=v.ob->s.first=v.fb)
 VM:(s.VK= -1/\s.VM=(0,0,[])/\s.VS=[])\/(0<=s.VK/\s.VM.1=s.VK/\s.VM.2.1=v.q)
 queue:(s.VM.2.2=[]/\s.VS=[])\/∃m,s.VM.2.2=[m]/\s.VS=[s.sent]/\G1 m/\0<=s.sent
 first:(s.first= -1/\s.receiver=(0,0)/\v.x=0)\/∃g:Nat,1<=g/\g<=v.fb/\s.first=g/\s.receiver=(pY g v.ob,(v.x:Int))
 act:s.VK=pY v.fb v.ob->(v.x=v.q/\(s.VM.2.2=[]->s.sent=v.k\/(s.sent= -1/\v.k<v.h))/\(∀m,s.VM.2.2=[m]->u1 v.n snaps v.k s.sent m))\/(v.x=v.q+1/\s.VM.2.2≠ []/\s.sent=v.k)
 WK:∀y∈s.WK,u3 v snaps s y
 N4:s.WK.length<=64
end Go.XE
namespace Go.XE
open Go Go.Sw Go.Mo Go.Pl
open Go.YS (oH)
open Go.WX (Good bP fA dL)
theorem C4:ZF aS:=⟨by simp[aS],fun x h=>by simp[aS] at h;omega⟩
def Jk(n:Nat)(d1 d2:(List aQ)×(List (Int×aQ))×Int):PS:={ n:=n,fn:=n,YC:=0,XC:=1,blocks:=List.replicate n aS,VW:=(0,[],[],true),WO:=[(0,List.replicate n aS)],VK:= -1,VM:=(0,0,[]),sent:=0,safe:=0,VS:=[],on:=n,YB:=0,WH:=1,first:= -1,receiver:=(0,0),WK:=[],r8:=n,fd:=d1,o6:=n,od:=d2 }
theorem DW{n:Nat}(h0:1<=n)(h1:n<=32){d1 d2:(List aQ)×(List (Int×aQ))×Int}(s1:oH d1 (List.replicate n aS) 0 1)(s2:oH d2 (List.replicate n aS) 0 1):
  Inv ⟨n,0,1,1,0,0,0⟩ (List.replicate n aS) [List.replicate n aS] (Jk n d1 d2):=by
 have u:∀b∈List.replicate n aS,ZF b:=fun b E=>by rw[List.eq_of_mem_replicate E];exact C4
 have C:=Vz (m:=n) (snaps:=[List.replicate n aS]) ⟨h0,h1⟩ (num:=0) rfl (by decide) (fun s B=>by simp at B;subst B;simp);constructor
 case n0=>exact h0
 case n1=>exact h1
 case bq=>exact s1
 case H4=>exact s2
 case ep=>exact C
 case bok=>intro l z;simp at z;subst z;exact u
 case nok=>exact u
 case WO=>
  intro p A;simp only[Jk,zp] at A;subst A;simp
 case last=>rfl
 case VK=>exact .inl rfl
 case VM=>exact .inl ⟨rfl,rfl,rfl⟩
 case queue=>exact .inl ⟨rfl,rfl⟩
 case first=>exact .inl ⟨rfl,rfl,rfl⟩
 case act=>intro h;simp[Jk,pY] at h
 case WK=>intro y D;simp[Jk] at D
 all_goals simp[Jk]
theorem JB{v:Nm}{now:List aQ}{snaps:List (List aQ)}{s:PS}(h:Inv v now snaps s){at_:Int}{b:aQ}(ha:0<=at_/\at_<v.n)(hb:ZF b):
  ∃s',lI at_ b s=some (none,s')/\Inv v (now.set at_.toNat b) snaps s':=by
 have A:=h.ep.add (p:=(at_,b)) ha;have B:=Go.m7.aJs h.ep.may (p:=(at_,b)) ha;obtain⟨z,D,_⟩:=wV (l:=s.blocks) (n:=at_) ha.1 (by rw[h.G4,h.ep.V9];exact ha.2);refine⟨{ s with blocks:=s.blocks.set at_.toNat b,VW:=(s.VW.1,Go.m7.R2 s.VW.2.1 (at_,b),s.VW.2.2.1,s.VW.2.2.2) },?_,?_⟩
 ·unfold lI eS;rw[h.en,B];simp only[cM,j1,pF,D]
 ·exact { h with
   ep:=A
   G4:=by rw[<-h.G4]
   nok:=fun x u=>by
    rcases aCz u with u | rfl
    ·exact h.nok x u
    ·exact hb
   WK:=fun y C=>by
    have:=h.WK y C
    exact⟨this.bytes,this.len,this.ne,this.G7,this.whole⟩}
theorem BM{v:Nm}{now:List aQ}{snaps:List (List aQ)}{s:PS}(h:Inv v now snaps s){at_:Int}{b:aQ}(ha:at_<0\/at_>=v.n):lI at_ b s=some (some 1,s):=by
 have u:=Go.m7.uk s.VW (v.n:Int) (at_,b) (Go.m7.bp h.ep.may);rw[WL (by rw[h.ep.may];simp),WU ha] at u;unfold lI eS;rw[h.en,u];simp only[cM,aCv,XP];rw[<-h.en]
theorem NH{v:Nm}{now:List aQ}{snaps:List (List aQ)}{s:PS}(h:Inv v now snaps s){at_:Int}(ha:0<=at_/\at_<v.n):oJ at_ s=some (now.getD at_.toNat [],none,s):=by
 obtain⟨z,u,A⟩:=wV (l:=now) (n:=at_) ha.1 (by rw[h.ep.V9];exact ha.2);unfold oJ fU;rw[h.en,h.G4,cl,J6,ZQ (by omega),pF,ZQ (by omega)];simp only[cM,pF,u];congr 2;rw[P6,A];rfl
theorem JC{v:Nm}{now:List aQ}{snaps:List (List aQ)}{s:PS}(h:Inv v now snaps s){at_:Int}(ha:at_<0\/at_>=v.n):oJ at_ s=some (aS,some 1,s):=by
 unfold oJ fU;rw[h.en,cl,J6];by_cases u:at_<0
 ·rw[A7 u];simp
 ·rw[ZQ u,A7 (by omega)];simp
theorem Ra{β:Type}{k j:Int}(hj:j≠k):∀m:List (Int×β),fK (Ge m k) j=fK m j
 | []=>rfl
 | (a,b)::m=>by
  have h:=Ra hj m;unfold Ge at h ⊢;simp only[G0,kp];by_cases u:a=k
  ·subst u;simp only[j0,List.eraseIdx_cons_zero,fK];rw[WL (fun e=>hj e.symm)]
  ·rw[WL u];cases hk:kp (m.map (·.1)) k with
   |none=>simp
   |some q=>
    rw[hk] at h;simp only[ql,List.eraseIdx_cons_succ,fK];split
    ·rfl
    ·exact h
theorem JD{β:Type}{k:Int}{m:List (Int×β)}{p:Int×β}(h:p∈Ge m k):p∈m:=by
 unfold Ge at h;split at h
 ·exact List.mem_of_mem_eraseIdx h
 ·exact h
theorem Ic{β:Type}{j:Int}{l:β}:∀{m:List (Int×β)},fK m j=some l->(j,l)∈m
 | [],h=>by cases h
 | (a,b)::m,h=>by
  unfold fK at h;split at h
  ·rename_i e;subst e;cases h;exact al
  ·exact ak _ (Ic h)
theorem Wc{β:Type}{j:Int}{l:β}:∀{m:List (Int×β)},fK m j=none->fK (m++[(j,l)]) j=some l
 | [],_=>by simp[fK]
 | (a,b)::m,h=>by
  unfold fK at h;split at h
  ·cases h
  ·rename_i e;simp only[fj,fK];rw[WL e];exact Wc h
theorem BN{n:Int}:∀(l:List (Int×aQ)) (last:Int),last<n->Go.m7.YQ n last l=true->(l.length:Int)<=n - 1 - last
 | [],last,A,_=>by simp;omega
 |x::l,last,A,h=>by
  have u:=Go.m7.YW n (x::l) last h x (by simp);have z:Go.m7.YQ n x.1 l=true:=by
   unfold Go.m7.YQ at h;split at h
   ·cases h
   ·exact h
  have:=BN l x.1 u.2 z;simp only[E3];omega
end Go.XE
namespace Go.XE
open Go Go.Sw Go.Mo Go.Pl
open Go.YS (oH sK)
open Go.m7 (uK Eu Bx Ll)
open Go.WX (Good bP fA dL)
theorem u1.mono{n:Nat}{snaps:List (List aQ)}{cur to:Int}{m:Fm}(h:u1 n snaps cur to m)(x:List aQ):u1 n (snaps++[x]) cur to m:=by
 have u:=h.lt;have z:=h.nn;have A:=h.le;refine⟨u,z,by simp;omega,h.load,h.YU,?_⟩;rw[uK (by omega),uK (by omega)];exact h.say
theorem u3.mono{v:Nm}{snaps:List (List aQ)}{s s':PS}{y:Bool×Bool×List Int}(h:u3 v snaps s y)(x:List aQ)(hk:v.k<snaps.length)(e1:s'.VK=s.VK)(e2:s'.VM=s.VM)(e3:s'.first=s.first)(e4:s'.receiver=s.receiver)(e5:s'.sent=s.sent)(hh:Nat):
  u3 { v with h:=hh } (snaps++[x]) s' y:=by
 refine⟨h.bytes,h.len,h.ne,h.G7,fun N=>?_⟩;obtain⟨f,P,Q,R,T⟩:=h.whole N;refine⟨f,P,Q,fun C=>?_,fun C=>?_⟩
 ·rcases R C with⟨g,u,z,A⟩|⟨S,q,m,u,z,A,B,K⟩
  ·exact .inl ⟨g,u,z,A⟩
  ·refine .inr ⟨S,q,m,u,z,?_,?_,?_⟩
   ·obtain⟨g,o,D,E,F,G,H,I⟩:=A;exact⟨g,o,D,E,F,G,by rw[e1];exact H,by rw[e3];exact I⟩
   ·rw[e1,e2];exact B
   ·rw[e3,e4];intro L M;obtain⟨U,V⟩:=K L M;exact⟨U,fun O=>by obtain⟨X,d4⟩:=V O;exact⟨X,d4.mono x⟩⟩
 ·rcases T C with⟨g,o,j,t,u,z,A,B,K,a6,a7,a8⟩|⟨S,a,u,z,A,B⟩
  ·refine .inl ⟨g,o,j,t,u,z,A,B,K,a6,?_,?_⟩
   ·rw[uK (by omega)];exact a7
   ·rw[e1,e3];exact a8
  ·refine .inr ⟨S,a,u,?_,?_,?_⟩
   ·obtain⟨g,o,D,E,F,G,H,I⟩:=z;exact⟨g,o,D,E,F,G,by rw[e1];exact H,by rw[e3];exact I⟩
   ·rw[e1,e2,e5];exact A
   ·rw[e3,e4];exact B
theorem Yp{v:Nm}{now:List aQ}{snaps:List (List aQ)}{s:PS}(h:Inv v now snaps s)(hb:v.h+1<=100000):
  ∃s',qQ s=some (none,s')/\Inv { v with h:=v.h+1 } now (snaps++[now]) s':=by
 have m5:=h.D4;have qe:=h.kh;have ZM:=h.hs;have P2:=h.n1;have jl:=h.n0;have I:s.VW.1=v.h:=by have:=h.ep.num;omega
 obtain⟨k1,k2,k3,k4,k5,F,k7,k8,k9⟩:=Go.m7.j6 h.ep.may;have K:snaps.getD v.h []∈snaps:=by
  rw[P6,E4 (by omega)];exact fh _
 have L:(snaps.getD v.h []).length=v.n:=h.ep.len _ K;have aa:=BN s.VW.2.1 (-1) (by omega) F;have M:=Go.m7.YW v.n s.VW.2.1 _ F;obtain⟨V,G,H,_⟩:=Ns h.bq (by omega) (by omega) (by omega) s.VW.2.1 ((v.h+1:Nat):Int) (by omega) (by omega) (fun p u=>by have:=M p u;omega);have N:sK (snaps.getD v.h []) s.VW.2.1=now:=by
  have:=h.ep.open_;rw[I,n9] at this;exact this
 rw[N,n9] at G;rw[L] at H;have O:=Go.m7.xd h.ep.may (by omega);have aFm:fK s.WO ((v.h+1:Nat):Int)=none:=by
  cases hg:fK s.WO ((v.h+1:Nat):Int) with
  |none=>rfl
  |some l=>have:=h.WO _ (Ic hg);simp only at this;omega
 have E:Hb s.WO ((v.h+1:Nat):Int) now=some (s.WO++[(((v.h+1:Nat):Int),now)]):=by unfold Hb;rw[aFm]
 obtain⟨_,X⟩:=Kn (blocks:=now) s.WO (v.h+1) (by have:=h.ep.V9;omega) (by omega) (by rw[E];rfl);have P:ar .add .i64 s.YC (1:Int)=((v.h+1:Nat):Int):=by rw[h.enum,r5 (by omega)]
 refine⟨{ s with YC:=((v.h+1:Nat):Int),VW:=Bx s.VW,WO:=pO s.WO ((v.h+1:Nat):Int) now,r8:=v.n,fd:=V },?_,?_⟩
 ·unfold qQ fP;rw[P,h.ZP,h.yx,H,cM];simp only[j1,pF];rw[h.efn,O,cM,h.G4];simp only[];rw[X,cM];rfl
 ·have D:(snaps++[now]).getD (v.h+1) []=now:=Eu (by omega);have Q:(snaps++[now]).getD v.k []=snaps.getD v.k []:=uK (by omega);have xy:pO s.WO ((v.h+1:Nat):Int) now=Ge (s.WO++[(((v.h+1:Nat):Int),now)]) (((v.h+1:Nat):Int) - 5):=by unfold pO;rw[E];rfl
  exact { h with
   hs:=by simp;omega
   D4:=by simp only;omega
   enum:=rfl
   kh:=by simp only;omega
   bq:=by rw[D];exact G
   H4:=by rw[Q];exact h.H4
   yx:=rfl
   ep:=h.ep.shut (by omega)
   bok:=fun l z=>by
    rcases M4.1 z with z | z
    ·exact h.bok l z
    ·simp at z;subst z;exact h.nok
   WO:=fun p u=>by
    simp only at u ⊢;rw[xy] at u;rcases M4.1 (JD u) with u | u
    ·obtain⟨A,C,B⟩:=h.WO p u;exact⟨A,by omega,by rw[uK (by omega)];exact B⟩
    ·simp only[zp] at u;subst u;exact⟨by simp only;omega,by simp only;omega,by simp only;rw[n9,D]⟩
   last:=by
    simp only;rw[xy,Ra (by omega),Wc aFm,D]
   sent:=by have:=h.sent;simp only;omega
   act:=fun R=>by
    rcases h.act R with⟨A,C,B⟩|⟨A,C,B⟩
    ·refine .inl ⟨A,fun S=>?_,fun m T=>(B m T).mono now⟩;rcases C S with c |⟨c1,c2⟩
     ·exact .inl c
     ·exact .inr ⟨c1,by simp only;omega⟩
    ·exact .inr ⟨A,C,B⟩
   WK:=fun y U=>by
    refine u3.mono (s:=s) (h.WK y U) now (by omega) ?_ ?_ ?_ ?_ ?_ (v.h+1)<;>rfl }
end Go.XE
namespace Go.XE
open Go Go.Sw Go.Mo Go.Pl
open Go.WX (Good bP fA dL)
def E6(a:Int):Prop:= -9223372036854775808<=a/\a<=9223372036854775807
theorem JE{a:Int}(h:E6 a):∃k:Nat,max a (IntKind.wrap .i64 (0 - (ar .add .i64 a (1:Int))))=(k:Int)/\(a=0->k=0):=by
 unfold E6 at h;by_cases u:a=9223372036854775807
 ·subst u;have z:ar .add .i64 (9223372036854775807:Int) 1= -9223372036854775808:=by decide+kernel
  have A:IntKind.wrap .i64 (0 - (-9223372036854775808:Int))= -9223372036854775808:=by decide+kernel
  rw[z,A];exact⟨9223372036854775807,by omega,fun c=>by omega⟩
 ·rw[ZV (by omega),wrap_i64 (by omega)];exact⟨(max a (0 - (a+1))).toNat,by omega,fun c=>by omega⟩
theorem u3.same{v:Nm}{snaps:List (List aQ)}{s s':PS}{y:Bool×Bool×List Int}(h:u3 v snaps s y)(e1:s'.VK=s.VK)(e2:s'.VM=s.VM)(e3:s'.first=s.first)(e4:s'.receiver=s.receiver)(e5:s'.sent=s.sent):u3 v snaps s' y:=by
 refine⟨h.bytes,h.len,h.ne,h.G7,fun z=>?_⟩;obtain⟨f,A,B,C,D⟩:=h.whole z;refine⟨f,A,B,fun u=>?_,fun u=>?_⟩
 ·have:=C u;unfold Ia tB at this ⊢;rw[e1,e2,e3,e4];exact this
 ·have:=D u;unfold Ib tB at this ⊢;rw[e1,e2,e3,e4,e5];exact this
variable {v:Nm}{now:List aQ}{snaps:List (List aQ)}{s:PS}
theorem Inv.V5(h:Inv v now snaps s){l:List (Bool×Bool×List Int)}(hl:l.length<=64)(hm:∀y∈l,u3 v snaps s y):Inv v now snaps { s with WK:=l }:=
 { h with
  WK:=fun y u=>(hm y u).same rfl rfl rfl rfl rfl
  N4:=hl }
theorem Ie(h:Inv v now snaps s){a:Int}(ha:E6 a):(s.WK=[]/\jM a s=some (0,false,s))\/∃i:Nat,i<s.WK.length/\jM a s=some ((i:Int),true,s)/\
  (∀b0 b1 b2 b3 b4 b5 b6 b7 b8 b9 WY WW XD WT XA WV WZ XN XM XL XK,cD a b0 b1 b2 b3 b4 b5 b6 b7 b8 b9 WY WW XD WT XA WV WZ s.WK XN XM XL XK=some ((i:Int),true))/\(a=0->i=0):=by
 by_cases u:s.WK=[]
 ·refine .inl ⟨u,?_⟩;unfold jM cD;rw[u];rfl
 ·right;have A:0<s.WK.length:=um.2 u;obtain⟨k,C,D⟩:=JE ha;have z:∀b0 b1 b2 b3 b4 b5 b6 b7 b8 b9 WY WW XD WT XA WV WZ XN XM XL XK,cD a b0 b1 b2 b3 b4 b5 b6 b7 b8 b9 WY WW XD WT XA WV WZ s.WK XN XM XL XK=some (((k % s.WK.length:Nat):Int),true):=by
   intros
   unfold cD;rw[ce,ZQ (by omega),pF,C];have B:nz ((s.WK.length:Nat):Int)=some ():=by unfold nz;rw[WL (by omega)]
   rw[B,cM];rfl
  refine⟨k % s.WK.length,mr _ A,?_,z,fun c=>by rw[D c];exact Nat.zero_mod _⟩;unfold jM;rw[z];rfl
theorem BO{α:Type}(l:List α)(i:Nat)(hi:i<l.length):Sw.del l (i:Int) ((i+1:Nat):Int)=some (l.take i++l.drop (i+1)):=by
 unfold Sw.del Sw.sub;rw[WU (by omega)];simp
theorem Rb{l:List (Bool×Bool×List Int)}(hl:l.length<=1000):cY l=some l:=by
 unfold cY;rw[VN _ _ (by simp;omega)];rfl
theorem NI(h:Inv v now snaps s){a:Int}(ha:E6 a):∃s',rG a s=some (none,s')/\Inv v now snaps s':=by
 rcases Ie h ha with⟨C,u⟩|⟨i,A,u,B,D⟩
 ·refine⟨{ s with WK:=s.WK },?_,h⟩;unfold jM at u;unfold rG fW;cases hq:cD a s.n s.fn s.YC s.XC s.blocks s.VW s.WO s.VK s.VM s.sent s.safe s.VS s.on s.YB s.WH s.first s.receiver s.WK s.r8 s.fd s.o6 s.od with
  |none=>rw[hq] at u;cases u
  |some q=>
   rw[hq] at u;simp only[cM,B9,bm] at u;simp only[cM,jp,u.2.1,pF]
 ·refine⟨{ s with WK:=s.WK.take i++s.WK.drop (i+1) },?_,h.V5 (by have:=h.N4;simp;omega) (fun y z=>h.WK y (by
   rcases M4.1 z with z | z
   ·exact aCo z
   ·exact aDq z))⟩
  unfold rG fW cS;rw[B,cM];simp only[jp,XP];rw[Rb (by have:=h.N4;omega),cM,r5 (by have:=h.N4;omega),BO _ _ A];rfl
theorem DX(h:Inv v now snaps s){a:Int}(ha:E6 a):∃s',lK a s=some (none,s')/\Inv v now snaps s':=by
 rcases Ie h ha with⟨E,u⟩|⟨i,B,u,A,F⟩
 ·refine⟨{ s with WK:=s.WK },?_,h⟩;unfold jM at u;unfold lK eI;cases hq:cD a s.n s.fn s.YC s.XC s.blocks s.VW s.WO s.VK s.VM s.sent s.safe s.VS s.on s.YB s.WH s.first s.receiver s.WK s.r8 s.fd s.o6 s.od with
  |none=>rw[hq] at u;cases u
  |some q=>
   rw[hq] at u;simp only[cM,B9,bm] at u;simp only[cM,jp,u.2.1,pF]
 ·have C:=h.N4;by_cases D:s.WK.length<64
  ·refine⟨{ s with WK:=s.WK++[s.WK[i]] },?_,h.V5 (by simp;omega) (fun y z=>h.WK y (by
    rcases M4.1 z with z | z
    ·exact z
    ·simp at z;subst z;exact fh _))⟩
   unfold lK eI;rw[A,cM];simp only[jp,XP,cl];rw[A7 (by omega),cM,XP,qO (E4 B),cM,VN _ _ (by simp;omega)];rfl
  ·refine⟨{ s with WK:=s.WK },?_,h⟩;unfold lK eI;rw[A,cM];simp only[jp,XP,cl];rw[ZQ (by omega)];simp only[cM,pF]
end Go.XE
namespace Go.XE
open Go Go.Sw Go.Mo Go.Pl
open Go.WX (Good bP fA dL)
variable {v:Nm}{now:List aQ}{snaps:List (List aQ)}{s:PS}
theorem VB:∀a:Fin 256,ar .or .u8 ((a.1:Nat):Int) 1=((a.1 ||| 1:Nat):Int):=by decide+kernel
theorem UJ{b:Int}(h:0<=b/\b<=255):ar .or .u8 b 1=((b.toNat ||| 1:Nat):Int):=by
 have:=VB ⟨b.toNat,by omega⟩;simp only at this;rw[<-this];congr 1;omega
theorem DY{a b:Nat}(ha:a<256)(hb:b<256):a ^^^ (b ||| 1)≠a/\a ^^^ (b ||| 1)<256:=by
 have z:b ||| 1<2 ^ 8:=aD1 (by simpa using hb) (by decide)
 have A:a ^^^ (b ||| 1)<2 ^ 8:=aCd (by simpa using ha) z;refine⟨fun h=>?_,by simpa using A⟩;have B:b ||| 1=0:=by
  have this:a ^^^ (a ^^^ (b ||| 1))=a ^^^ a:=by rw[h]
  rw[<-Nat.xor_assoc,Nat.xor_self,Nat.zero_xor] at this;exact this
 have u:(b ||| 1).testBit 0=true:=by rw[Nat.testBit_or];simp
 rw[B] at u;simp at u
theorem DZ(h:Inv v now snaps s){d:Int×Int×Int×aQ}(h1:E6 d.2.1)(h2:E6 d.2.2.1)(h3:ZF d.2.2.2):∃s',lL d s=some (none,s')/\Inv v now snaps s':=by
 rcases Ie h h1 with⟨hn,A⟩|⟨i,L,A,M,ab⟩
 ·refine⟨{ s with WK:=s.WK },?_,h⟩;unfold jM at A;unfold lL eJ;cases hq:cD d.2.1 s.n s.fn s.YC s.XC s.blocks s.VW s.WO s.VK s.VM s.sent s.safe s.VS s.on s.YB s.WH s.first s.receiver s.WK s.r8 s.fd s.o6 s.od with
  |none=>rw[hq] at A;cases A
  |some q=>
   rw[hq] at A;simp only[cM,B9,bm] at A;simp only[cM,A.2.1,vm,XP]
 ·have hl:=h.N4;have E:=qO (E4 L);have B:=h.WK _ (fh L);generalize hy:s.WK[i]=y at E B;by_cases C:y.2.1=true
  ·refine⟨{ s with WK:=s.WK },?_,h⟩;unfold lL eJ;rw[M,cM];simp only[kt,pF,E,cM,C,XP]
  ·have C:y.2.1=false:=by simpa using C
   obtain⟨f,g1,I,_,_⟩:=B.whole C;have N:=B.len;have O:0<y.2.2.length:=um.2 B.ne;obtain⟨k,hk,_⟩:=JE h2;have D:k % y.2.2.length<y.2.2.length:=mr _ O;have H:=B.bytes (y.2.2[k % y.2.2.length]) (fh D);obtain⟨b0,K⟩:∃b0,d.2.2.2[0]? =some b0:=⟨_,E4 (by have:=h3.1;omega)⟩;have P:=h3.2 b0 (aB7 K);have Q:Sw.idx d.2.2.2 (0:Int)=some b0:=qO (i:=0) K;generalize ey:y.2.2[k % y.2.2.length]=z at H;have R:Sw.idx y.2.2 ((k % y.2.2.length:Nat):Int)=some z:=qO (by rw[<-ey];exact E4 D);have hx:=DY (a:=z.toNat) (b:=b0.toNat) (by omega) (by omega);have S:ar .or .u8 b0 1=((b0.toNat ||| 1:Nat):Int):=UJ P;have aa:b0.toNat ||| 1<2 ^ 8:=aD1 (by omega) (by decide)
   have T:ar .xor .u8 z ((b0.toNat ||| 1:Nat):Int)=((z.toNat ^^^ (b0.toNat ||| 1):Nat):Int):=by
    rw[Go.WX.aUw H (by omega),n9]
   obtain⟨w,hw⟩:∃w:Int,w=((z.toNat ^^^ (b0.toNat ||| 1):Nat):Int):=⟨_,rfl⟩;have F:Bytes (y.2.2.set (k % y.2.2.length) w):=fun x u=>by
    rcases aCz u with u | rfl
    ·exact B.bytes x u
    ·omega
   have U:u3 v snaps s (y.1,true,y.2.2.set (k % y.2.2.length) w):=by
    refine⟨F,by simp only[aCr];exact N,fun G=>by have:=congrArg List.length G;simp only[aCr,U8] at this;omega,fun _=>?_,fun hf=>by cases hf⟩;simp only[I] at F D ⊢;have V:Bytes ((bP f).set (k % (bP f).length) w):=F;refine Go.WX.G7 g1 D (by omega) (fun G=>?_) V;have:(bP f)[k % (bP f).length]=z:=by rw[<-ey];simp only[I]
    rw[this] at G;omega
   refine⟨{ s with WK:=s.WK.set i (y.1,true,y.2.2.set (k % y.2.2.length) w) },?_,h.V5 (by simp;omega) (fun x u=>?_)⟩
   ·unfold lL eJ nG;rw[M,cM];have X:nz ((y.2.2.length:Nat):Int)=some ():=by unfold nz;rw[WL (by omega)]
    have xy:ar .rem .i64 (k:Int) (y.2.2.length:Int)=((k % y.2.2.length:Nat):Int):=rfl;simp only[kt,pF,E,cM,C];rw[VN _ _ (by simp;omega),aj,cM,X,cM,hk,xy,R,cM,Q,cM];simp only[cM,S,T,<-hw,n9]
   ·rcases aCz u with u | rfl
    ·exact h.WK x u
    ·exact U
end Go.XE
namespace Go.XE
open Go Go.Sw Go.Mo Go.Pl
open Go.YS (oH)
open Go.WX (Good bP fA dL)
variable {v:Nm}{now:List aQ}{snaps:List (List aQ)}{s:PS}
theorem yU(a b:Nat):0<=pY a b:=by unfold pY;omega
theorem EA(h:Inv v now snaps s)(hb:v.fb+1<=3000)(a1:Int×Int×Int×aQ):
  ∃s',kR a1 s.n s.fn s.YC s.XC s.blocks s.VW s.WO s.VK s.VM s.sent s.safe s.VS s.on s.YB s.WH s.first s.receiver s.WK s.r8 s.fd s.o6 s.od=some (aS,none,WN s')/\s'.WK=s.WK/\
   Inv { v with fb:=v.fb+1,q:=0 } (snaps.getD v.h []) snaps s':=by
 have m5:=h.D4;have qe:=h.kh;have P:=h.hs;have Q:=h.n1;have R:=h.n0;have K:snaps.getD v.h []∈snaps:=by
  rw[P6,E4 (by omega)];exact fh _
 have T:(snaps.getD v.h []).length=v.n:=h.ep.len _ K;have L:=Vy h.bq (by omega) (by omega);obtain⟨X,sn,_,N⟩:=Hw h.bq (by omega) (by omega) (by omega) (by omega);rw[T] at L N;refine⟨{ s with fn:=v.n,YC:=(v.h:Int),XC:=((v.fb+1:Nat):Int),blocks:=snaps.getD v.h [],VW:=((v.h:Int),[],[],true),WO:=[((v.h:Int),snaps.getD v.h [])],VK:= -1,VM:=(0,0,[]),sent:=0,safe:=0,VS:=[],r8:=v.n,fd:=X },?_,rfl,?_⟩
 ·unfold kR;rw[h.yx,h.en,L,cM];simp only[vV,gv,XP,jp];rw[N,cM];rfl
 ·exact { h with
   D4:=by simp only;omega
   pos:=by have:=h.pos;simp only;omega
   efn:=rfl
   enum:=rfl
   ZP:=rfl
   bq:=sn
   yx:=rfl
   ep:=Vz ⟨R,Q⟩ P (by omega) h.ep.len
   G4:=rfl
   nok:=h.bok _ K
   WO:=fun p M=>by
    simp only[zp] at M;subst M;exact⟨by simp only;omega,by simp only;omega,by simp only;rw[n9]⟩
   low:=fun _=>zf _
   last:=by simp only;unfold fK;simp[kp]
   idle:=fun c=>by
    simp only at c;rcases h.first with⟨H,_⟩|⟨g,H,c2,O,_⟩<;>omega
   safe:=by simp only;omega
   sent:=by simp only;omega
   VK:= .inl rfl
   VM:= .inl ⟨rfl,rfl,rfl⟩
   queue:= .inl ⟨rfl,rfl⟩
   first:=by
    rcases h.first with c |⟨g,H,c2,O,c4⟩
    ·exact .inl c
    ·exact .inr ⟨g,H,by simp only;omega,O,c4⟩
   act:=fun U=>by have:=yU (v.fb+1) v.ob;simp only at U;omega
   WK:=fun y u=>by
    have u:=h.WK y u;refine⟨u.bytes,u.len,u.ne,u.G7,fun V=>?_⟩;obtain⟨f,g1,g2,g3,g4⟩:=u.whole V;refine⟨f,g1,g2,fun hb=>?_,fun hb=>?_⟩
    ·rcases g3 hb with⟨g,a1,z,A⟩|⟨S,q,m,a1,z,A,B,I⟩
     ·exact .inl ⟨g,a1,by simp only;omega,A⟩
     ·obtain⟨g,o,C,D,E,F,b5,G⟩:=A;refine .inr ⟨S,q,m,a1,z,⟨g,o,C,D,E,F,.inl (by simp only;omega),G⟩,fun c=>?_,I⟩;have:=yU g o;simp only at c;omega
    ·rcases g4 hb with⟨g,o,j,t,a1,z,A,B,I,a6,a7,a8⟩|⟨S,a,a1,z,A,B⟩
     ·exact .inl ⟨g,o,j,t,a1,z,by simp only;omega,B,I,a6,a7,fun c=>by simp only at c;omega⟩
     ·obtain⟨g,o,C,D,E,F,b5,G⟩:=z;refine .inr ⟨S,a,a1,⟨g,o,C,D,E,F,.inl (by simp only;omega),G⟩,fun c=>?_,B⟩
      have:=yU g o;simp only at c;omega }
theorem EB(h:Inv v now snaps s)(hb:v.ob+1<=3000)(a1:Int×Int×Int×aQ):
  ∃s',kF a1 s.n s.fn s.YC s.XC s.blocks s.VW s.WO s.VK s.VM s.sent s.safe s.VS s.on s.YB s.WH s.first s.receiver s.WK s.r8 s.fd s.o6 s.od=some (aS,none,WN s')/\s'.WK=s.WK/\
   Inv { v with ob:=v.ob+1,x:=0 } now snaps s':=by
 have m5:=h.D4;have qe:=h.kh;have ZM:=h.hs;have P2:=h.n1;have jl:=h.n0;have M:snaps.getD v.k []∈snaps:=by
  rw[P6,E4 (by omega)];exact fh _
 have N:(snaps.getD v.k []).length=v.n:=h.ep.len _ M;have I:=Vy h.H4 (by omega) (by omega);obtain⟨P,Q,_,K⟩:=Hx h.H4 (by omega) (by omega) (by omega) (by omega);rw[N] at I K;refine⟨{ s with on:=v.n,YB:=(v.k:Int),WH:=((v.ob+1:Nat):Int),first:= -1,receiver:=(0,0),o6:=v.n,od:=P },?_,rfl,?_⟩
 ·unfold kF;rw[h.ou,h.en,I,cM];simp only[vV,gv,XP,jp];rw[K,cM];rw[<-h.en];rfl
 ·exact { h with
   D4:=by simp only;omega
   pos:=by have:=h.pos;simp only;omega
   eon:=rfl
   Y3:=rfl
   U6:=rfl
   H4:=Q
   ou:=rfl
   VK:=by
    rcases h.VK with c |⟨o,L,c2,H,c4⟩
    ·exact .inl c
    ·exact .inr ⟨o,L,by simp only;omega,H,fun c=>by simp only at c;omega⟩
   first:= .inl ⟨rfl,rfl,rfl⟩
   idle:=fun _ _=>rfl
   act:=fun C=>by
    simp only at C;rcases h.VK with c |⟨o,L,c2,H,c4⟩
    ·have:=yU v.fb (v.ob+1);omega
    ·rw[H] at C;have:=(sV (by omega) (by omega) C).2;omega
   WK:=fun y u=>by
    have u:=h.WK y u;refine⟨u.bytes,u.len,u.ne,u.G7,fun O=>?_⟩;obtain⟨f,R,T,U,V⟩:=u.whole O;refine⟨f,R,T,fun hb=>?_,fun hb=>?_⟩
    ·rcases U hb with⟨g,a1,z,A⟩|⟨S,q,m,a1,z,A,B,a5⟩
     ·exact .inl ⟨g,a1,z,A⟩
     ·obtain⟨g,o,D,E,F,X,G,b6⟩:=A;refine .inr ⟨S,q,m,a1,z,⟨g,o,D,E,F,by simp only;omega,G,fun c=>by simp only at c;omega⟩,B,fun c=>?_⟩;simp only at c;omega
    ·rcases V hb with⟨g,o,j,t,a1,z,A,B,a5,a6,a7,a8⟩|⟨S,a,a1,z,A,B⟩
     ·exact .inl ⟨g,o,j,t,a1,z,A,B,by simp only;omega,a6,a7,fun _ c=>by simp only at c;omega⟩
     ·obtain⟨g,o,D,E,F,X,G,b6⟩:=z;refine .inr ⟨S,a,a1,⟨g,o,D,E,F,by simp only;omega,G,fun c=>by simp only at c;omega⟩,A,fun c=>?_⟩
      simp only at c;omega }
end Go.XE
namespace Go.XE
open Go Go.Sw Go.Mo Go.Pl
open Go.YS (oH)
open Go.WX (Good bP fA dL dU qP Ev kG wY rF jI Ji Np nA Jj)
variable {v:Nm}{now:List aQ}{snaps:List (List aQ)}{s:PS}
def oM(l:List (Bool×Bool×List Int))(y:Bool×Bool×List Int):List (Bool×Bool×List Int):=if l.length<64 then l++[y] else l
def Sx(s s':PS):Prop:=s'.WK=s.WK\/∃y,s'.WK=oM s.WK (false,y)
theorem Rc{l:List (Bool×Bool×List Int)}{y}(h:l.length<=64):(oM l y).length<=64:=by
 unfold oM;split
 ·simp;omega
 ·exact h
theorem EC{l:List (Bool×Bool×List Int)}{x y}(h:x∈oM l y):x∈l\/x=y:=by
 unfold oM at h;split at h
 ·simpa using h
 ·exact .inl h
theorem q8{f:Fm}(g:Good f):bP f≠ []/\(bP f).length<=1004:=by
 have z:=(rF g).2;have u:(bP f).length=(Go.WX.body f).length+4:=by unfold bP;rw[sM];unfold Go.WX.w9;simp
 exact⟨fun h=>by rw[h] at u;simp at u,by omega⟩
theorem Ig(dir:Bool)(b:List Int)(b0 b1 b2 b3 b4 b5 b6 b7 b8 b9 WY WW XD WT XA WV WZ WR XN XM XL XK)(hl:WR.length<=64):
  eF dir (false,b) b0 b1 b2 b3 b4 b5 b6 b7 b8 b9 WY WW XD WT XA WV WZ WR XN XM XL XK=some (oM WR (dir,false,b)):=by
 unfold eF oM;simp only[vm,XP,cM];by_cases h:WR.length<64
 ·have:cm .lss (WR.length:Int) (64:Int)=true:=by rw[cl];exact A7 (by omega)
  rw[this,WU h,XP,VN _ _ (by simp;omega),cM]
 ·have:cm .lss (WR.length:Int) (64:Int)=false:=by rw[cl];exact ZQ (by omega)
  rw[this,WL h,pF]
theorem Sy{f:Fm}(g:Good f)(he:dU f=0)(dir:Bool)(b0 b1 b2 b3 b4 b5 b6 b7 b8 b9 WY WW XD WT XA WV WZ WR XN XM XL XK)(hl:WR.length<=64):
  iU dir f b0 b1 b2 b3 b4 b5 b6 b7 b8 b9 WY WW XD WT XA WV WZ WR XN XM XL XK=some (none,oM WR (dir,false,bP f)):=by
 unfold iU;rw[Ev g he,cM];have h:GW (bP f)=some ():=by
  unfold GW;have:=(q8 g).1;cases hp:bP f with
  |nil=>exact absurd hp this
  |cons a l=>rfl
 simp only[jp,gv,XP];rw[h,cM,Ig _ _ _ _ _ _ _ _ _ _ _ _ _ _ _ _ _ _ _ _ _ _ _ _ hl];rfl
theorem Inv.push(h:Inv v now snaps s){y:Bool×Bool×List Int}(hy:u3 v snaps s y):Inv v now snaps { s with WK:=oM s.WK y }:=
 h.V5 (Rc h.N4) (fun x u=>by
  rcases EC u with u | rfl
  ·exact h.WK x u
  ·exact hy)
theorem Ew{f:Fm}(g:Good f)(dir:Bool)(h1:dir=true->Ia v snaps s f)(h2:dir=false->Ib v snaps s f):u3 v snaps s (dir,false,bP f):=
 ⟨wY g,by have:=(q8 g).2;simp only;omega,(q8 g).1,fun h=>(nomatch h),fun _=>⟨f,g,rfl,h1,h2⟩⟩
theorem Yq{g:Nat}(h:g<=2147483647):dU (kP g)=0/\Good (kP g):=by
 have z:dL (kP g)=0:=Lo (by unfold kP;simp only;omega) (by unfold kP;simp) (by unfold kP;simp) (fun x u=>by simp only[kP,zp] at u;subst u;omega);have:=(Go.WX.l9 z).1;exact⟨this,qP this (fun b A=>by simp[kP] at A)⟩
theorem G6{S:Int}{q:Nat}{m:Fm}(hm:G1 m)(hS:0<=S/\S<=2147483647)(hq:q<=2147483647):Good (WS S q m):=by
 obtain⟨u,z⟩:=Go.WX.l9 hm.load;have g:=qP u hm.YU;refine⟨by unfold WS;simp,by unfold WS;simp,by unfold WS;simp;omega,g.bs,fun n h=>?_,g.YU⟩;simp only[WS,fj,aj,n7] at h;rcases h with rfl | rfl | rfl | h
 ·exact hS
 ·omega
 ·have:=g.s0;have:=g.s1;omega
 ·exact g.num n h
theorem ED(h:Inv v now snaps s)(hS:0<=s.VK)(hq:s.VM.2.2=[])(hs:s.sent<v.h){m:Fm}(hm:G1 m)(hn:∀cur:Int,0<=cur->cur<v.h->(s.sent= -1\/cur=s.sent)->u1 v.n snaps cur v.h m):
  Inv v now snaps { s with VM:=(s.VK,(v.q:Int),[m]),sent:=(v.h:Int),VS:=[(v.h:Int)] }:=by
 have P:=h.D4
 exact { h with
  sent:=by simp only;omega
  VM:= .inr ⟨hS,rfl,rfl⟩
  low:=fun c=>by simp at c
  queue:= .inr ⟨m,rfl,rfl,hm,by simp only;omega⟩
  act:=fun G=>by
   rcases h.act G with⟨A,z,B⟩|⟨A,z,B⟩
   ·refine .inl ⟨A,fun c=>by simp at c,fun E F=>?_⟩;simp only[aEw,and_true] at F;subst F;rcases z hq with c |⟨N,Q⟩
    ·exact hn v.k (by omega) (by omega) (.inr c.symm)
    ·exact hn v.k (by omega) (by omega) (.inl N)
   ·exact absurd hq z
  WK:=fun y u=>by
   have u:=h.WK y u;refine⟨u.bytes,u.len,u.ne,u.G7,fun H=>?_⟩;obtain⟨f,I,K,L,M⟩:=u.whole H;refine⟨f,I,K,fun C=>?_,fun C=>?_⟩
   ·rcases L C with c |⟨S,q,E,A,z,B,D,O⟩
    ·exact .inl c
    ·refine .inr ⟨S,q,E,A,z,B,fun c=>?_,O⟩;rcases D c with c |⟨_,c⟩
     ·exact .inl c
     ·rw[hq] at c;simp at c
   ·rcases M C with c |⟨S,a,A,z,B,D⟩
    ·exact .inl c
    ·refine .inr ⟨S,a,A,z,fun c=>?_,D⟩;rcases B c with c |⟨_,c,_⟩
     ·exact .inl c
     ·exact absurd hq c }
theorem BP{v:Nm}{now:List aQ}{snaps:List (List aQ)}{s:PS}(h:Inv v now snaps s):s.VK<=2147483647:=by
 have z:=h.D4;rcases h.VK with c |⟨o,A,B,u,C⟩
 ·omega
 ·rw[u];unfold pY;omega
theorem Pa(h:Inv v now snaps s)(hS:0<=s.VK){m:Fm}(hq:s.VM.2.2=[m])(hm:G1 m):Ia v snaps s (WS s.VK v.q m):=by
 have L:=h.D4;rcases h.VK with c |⟨o,D,E,u,F⟩
 ·omega
 ·refine .inr ⟨_,_,m,rfl,hm,⟨v.fb,o,u,h.pos.1,D,E,.inr ⟨rfl,by omega⟩,fun e=>by rw[F e];exact zf _⟩,fun _=> .inr ⟨rfl,hq⟩,fun M z=>?_⟩;rcases h.first with⟨G,_⟩|⟨g,G,O,P,H⟩
  ·omega
  ·rw[H] at z;simp only at z;have A:=z;rw[u] at A;obtain⟨N,C⟩:=sV (by omega) (by omega) A;rw[C] at u;rcases h.act u with⟨I,K,B⟩|⟨I,K,B⟩
   ·exact⟨by omega,fun _=>⟨_,B m hq⟩⟩
   ·exact⟨by omega,fun c=>by omega⟩
end Go.XE
namespace Go.XE
open Go Go.Sw Go.Mo Go.Pl
open Go.YS (oH)
open Go.WX (Good bP fA dL dU qP Ev kG wY rF jI Ji Np nA Jj)
variable {v:Nm}{now:List aQ}{snaps:List (List aQ)}{s:PS}
def QE(v:Nm)(s s':PS):Prop:=s'.first=s.first/\s'.VK=s.VK/\
 ((s.VK<0/\s'.WK=oM s.WK (true,false,bP (kP v.fb)))\/
  (0<=s.VK/\s'.VM.2.2=[]/\s'.sent=v.h/\s'.WK=oM s.WK (true,false,bP (kP v.fb)))\/
  (0<=s.VK/\∃m,s'.VM.2.2=[m]/\G1 m/\(s.VM.2.2=[]->s'.sent=v.h)/\s'.WK=oM (oM s.WK (true,false,bP (kP v.fb))) (true,false,bP (WS s.VK v.q m))))
theorem NJ(h:Inv v now snaps s):∃s',lZ s=some (none,s')/\Inv v now snaps s'/\QE v s s':=by
 have m5:=h.D4;have G:=h.N4;obtain⟨he,hg⟩:=Yq (g:=v.fb) (by omega);have K:Inv v now snaps { s with WK:=oM s.WK (true,false,bP (kP v.fb)) }:=
  h.push (Ew hg true (fun _=> .inl ⟨v.fb,h.pos.1,YV _,rfl⟩) (fun c=>nomatch c))
 have V:=Rc (y:=(true,false,bP (kP v.fb))) G;have L:=Sy hg he true;have ad:=BP h;rcases h.VM with⟨F,c2,c3⟩|⟨F,c2,c3⟩
 ·
  refine⟨{ s with WK:=oM s.WK (true,false,bP (kP v.fb)) },?_,K,rfl,rfl,.inl ⟨by omega,rfl⟩⟩;unfold lZ eG;rw[h.ZP];have A:((2:Int),([(v.fb:Int)]:List Int),([]:List aQ))=kP v.fb:=rfl;rw[A,L _ _ _ _ _ _ _ _ _ _ _ _ _ _ _ _ _ _ _ _ _ _ G,cM];have H:cm .lss s.VK (0:Int)=true:=by rw[cl];exact A7 (by omega)
  simp only[j1,pF,cM,H,XP]
 ·have H:cm .lss s.VK (0:Int)=false:=by rw[cl];exact ZQ (by omega)
  have B:s.VM=(s.VK,(v.q:Int),s.VM.2.2):=by rw[<-c2,<-c3]
  have X:∀(C:PS) (m:Fm),Inv v now snaps C->C.VK=s.VK->C.VM=(s.VK,(v.q:Int),[m])->G1 m->
    ∃s3,s3={ C with WK:=oM C.WK (true,false,bP (WS s.VK v.q m)) }/\Inv v now snaps s3:=by
   intro C m hi D e4 u;refine⟨_,rfl,hi.push (Ew (G6 u (by omega) (by omega)) true (fun _=>?_) (fun c=>nomatch c))⟩;have:=Pa hi (by rw[D];exact F) (m:=m) (by rw[e4]) u;rw[D] at this;exact this
  have bt:∀(m:Fm) (k:List (Bool×Bool×List Int)->Option ((Option Int)×(Int×Int×(List (Int×(List Int)×(List aQ))))×Int×(List Int)×(List (Bool×Bool×(List Int))))) (b0 b1 b2 b3 b4 b5 b6 b7 b8 b9 WY WW XD WT XA WV WZ XN XM XL XK) (E:List (Bool×Bool×List Int)),E.length<=64->G1 m->
    lp (β:=(List (Bool×Bool×(List Int)))) (fun (I:Int×(List (Bool×Bool×(List Int))))=>
      bif (cm .lss I.1 (([bP (WS s.VK v.q m)]:List (List Int)).length:Int)) then
       (Sw.idx [bP (WS s.VK v.q m)] I.1).bind fun ab=>
        (GW ab).bind fun _=>
         (eF true (false,ab) b0 b1 b2 b3 b4 b5 b6 b7 b8 b9 WY WW XD WT XA WV WZ I.2 XN XM XL XK).bind fun wu=>
          some (.next ((ar .add .i64 I.1 (1:Int)),wu))
      else
       some (.done (.WM I.2))
      ) ((0:Int),E) k=k (oM E (true,false,bP (WS s.VK v.q m))):=by
   intro m k b0 b1 b2 b3 b4 b5 b6 b7 b8 b9 WY WW XD WT XA WV WZ XN XM XL XK E jl u;have ac:=G6 u (S:=s.VK) (q:=v.q) (by omega) (by omega);obtain⟨p1,p2⟩:=q8 ac;have YZ:GW (bP (WS s.VK v.q m))=some ():=by
    unfold GW;cases hp:bP (WS s.VK v.q m) with
    |nil=>exact absurd hp p1
    |cons a l=>rfl
   unfold lp;rw[show fJ=1125899906842622+1+1 from rfl,Go.WX.q9 (y:=((1:Int),oM E (true,false,bP (WS s.VK v.q m)))),Go.WX.l8 (b:= .WM (oM E (true,false,bP (WS s.VK v.q m))))]
   ·rfl
   ·have:Sw.idx [bP (WS s.VK v.q m)] (0:Int)=some (bP (WS s.VK v.q m)):=rfl;simp only[cl,aCw];rw[A7 (by omega),XP,this,cM,YZ,cM,Ig _ _ _ _ _ _ _ _ _ _ _ _ _ _ _ _ _ _ _ _ _ _ _ _ jl,cM];rfl
  have aa:∀m,G1 m->pD (s.VK,(v.q:Int),[m])=some ([bP (WS s.VK v.q m)],none):=by
   intro m u;have P:=nA (S:=s.VK) (q:=(v.q:Int)) (l:=[m]) (by omega) (by omega) (by simp) (fun f N=>by simp at N;subst N;exact u.load);rw[Np P (by omega) u.load u.YU];have:Go.WX.WS (s.VK,(v.q:Int),[m]) 0 m=WS s.VK v.q m:=by unfold Go.WX.WS WS;simp
   rw[this]
  rcases h.queue with⟨z,d2⟩|⟨m,z,d2,O,d4⟩
  ·
   rw[z] at B;by_cases M:s.sent<v.h
   ·
    obtain⟨m,n1,T⟩:=NG h.ep h.n0 h.n1 h.hs (by omega) h.bok (fun j l hl=>by have:=h.WO _ (Ic hl);simpa using this) h.last (k:=s.sent) ⟨h.sent.1,M⟩;have u:G1 m:=by
     have:=h.sent;by_cases c:s.sent= -1
     ·have:=T 0 (by omega) (by omega) (.inl c);exact⟨this.load,this.YU⟩
     ·have:=T s.sent (by omega) (by omega) (.inr rfl);exact⟨this.load,this.YU⟩
    have h2:=ED K F z M u T;obtain⟨s3,D,U⟩:=X _ m h2 rfl rfl u;subst D;refine⟨_,?_,U,rfl,rfl,.inr (.inr ⟨F,m,rfl,u,fun _=>rfl,rfl⟩)⟩;unfold lZ eG;rw[h.ZP];have A:((2:Int),([(v.fb:Int)]:List Int),([]:List aQ))=kP v.fb:=rfl;rw[A,L _ _ _ _ _ _ _ _ _ _ _ _ _ _ _ _ _ _ _ _ _ _ G,cM];have Q:cm .lss s.sent s.YC=true:=by rw[cl,h.enum];exact A7 M
    have R:cm .eql (s.VM.2.2.length:Int) (0:Int)=true:=by rw[z];rfl
    simp only[j1,pF,cM,H,Q,R,XP,jp];rw[h.efn,h.enum,n1,cM,B,Jj (by omega) (by omega) u.load,cM];simp only[j1,pF];rw[d2,VN _ _ (by simp),cM];rw[aa m u,cM];simp only[];rw[bt m _ _ _ _ _ _ _ _ _ _ _ _ _ _ _ _ _ _ _ _ _ _ _ V u];simp only[cM,aj]
   ·refine⟨{ s with WK:=oM s.WK (true,false,bP (kP v.fb)) },?_,K,rfl,rfl,.inr (.inl ⟨F,z,by have:=h.sent;simp only;omega,rfl⟩)⟩;unfold lZ eG;rw[h.ZP];have A:((2:Int),([(v.fb:Int)]:List Int),([]:List aQ))=kP v.fb:=rfl;rw[A,L _ _ _ _ _ _ _ _ _ _ _ _ _ _ _ _ _ _ _ _ _ _ G,cM];have Q:cm .lss s.sent s.YC=false:=by rw[cl,h.enum];exact ZQ M
    simp only[j1,pF,cM,H,Q,XP,jp];have P:=nA (S:=s.VK) (q:=(v.q:Int)) (l:=[]) (by omega) (by omega) (by simp) (fun f N=>by simp at N);rw[B,Ji P,cM];simp only[];unfold lp;rw[show fJ=1125899906842623+1 from rfl,Go.WX.l8 (b:= .WM (oM s.WK (true,false,bP (kP v.fb))))]
    ·simp only[cM]
    ·rfl
  ·rw[z] at B;obtain⟨s3,D,U⟩:=X _ m K rfl B O;subst D;refine⟨_,?_,U,rfl,rfl,.inr (.inr ⟨F,m,z,O,fun c=>(by rw[z] at c;cases c),rfl⟩)⟩;unfold lZ eG;rw[h.ZP];have A:((2:Int),([(v.fb:Int)]:List Int),([]:List aQ))=kP v.fb:=rfl;rw[A,L _ _ _ _ _ _ _ _ _ _ _ _ _ _ _ _ _ _ _ _ _ _ G,cM];have R:(bif (cm .lss s.sent s.YC) then some (cm .eql (s.VM.2.2.length:Int) (0:Int)) else some false)=some false:=by
    rw[z];cases cm .lss s.sent s.YC<;>rfl
   simp only[j1,pF,cM,H];rw[R,cM];simp only[pF,jp];rw[B,aa m O,cM];simp only[];rw[bt m _ _ _ _ _ _ _ _ _ _ _ _ _ _ _ _ _ _ _ _ _ _ _ V O];simp only[cM]
end Go.XE
namespace Go.XE
open Go Go.Sw Go.Mo Go.Pl
open Go.YS (oH xQ)
open Go.WX (Good bP fA dL dU qP)
variable {v:Nm}{now:List aQ}{snaps:List (List aQ)}{s:PS}
theorem JF{g o:Nat}(hg:g<=3000)(ho:o<=3000):ar .or .i64 (sh .shl .i64 (g:Int) (12:Int)) (o:Int)=pY g o:=by
 have h:sh .shl .i64 (g:Int) (12:Int)=((g*2 ^ 12:Nat):Int):=by
  show IntKind.wrap .i64 ((g:Int)*2 ^ min ((12:Nat):Int).toNat 64)=_;rw[n9,qm (by omega)];have e:(g:Int)*2 ^ 12=((g*2 ^ 12:Nat):Int):=by omega
  rw[e,wrap_i64 (by omega)]
 rw[h,Go.YS.orI (by omega) (by omega),Go.YS.orP (by omega)];unfold pY;rfl
theorem EE(h:Inv v now snaps s){g:Nat}(h1:1<=g)(h2:g<=v.fb)(h3:s.first<g):Inv { v with x:=0 } now snaps { s with first:=(g:Int),receiver:=(pY g v.ob,0) }:=by
 have m5:=h.D4;have K:∀S,tB v s S->S≠pY g v.ob:=by
  rintro S ⟨C,o,G,M,N,O,P,H⟩ e;rw[G] at e;obtain⟨e1,T⟩:=sV (by omega) (by omega) e;have:=H T;omega
 have L:∀S,tB v s S->tB { v with x:=0 } { s with first:=(g:Int),receiver:=(pY g v.ob,0) } S:=by
  rintro S ⟨C,o,G,M,N,O,P,H⟩;exact⟨C,o,G,M,N,O,P,fun e=>by have:=H e;simp only;omega⟩
 exact { h with
  D4:=by simp only;omega
  idle:=fun _ _=>rfl
  VK:=by
   rcases h.VK with c |⟨o,c1,c2,c3,I⟩
   ·exact .inl c
   ·exact .inr ⟨o,c1,c2,c3,fun e=>by have:=I e;simp only;omega⟩
  first:= .inr ⟨g,h1,h2,rfl,rfl⟩
  act:=fun E=>by
   simp only at E;rcases h.VK with c |⟨o,c1,c2,c3,I⟩
   ·have:=yU v.fb v.ob;omega
   ·rw[c3] at E;have:=I (sV (by omega) (by omega) E).2;omega
  WK:=fun y u=>by
   have u:=h.WK y u;refine⟨u.bytes,u.len,u.ne,u.G7,fun R=>?_⟩;obtain⟨f,U,V,X,g4⟩:=u.whole R;refine⟨f,U,V,fun F=>?_,fun F=>?_⟩
   ·rcases X F with c |⟨S,q,m',B,z,A,D,Q⟩
    ·exact .inl c
    ·exact .inr ⟨S,q,m',B,z,L S A,D,fun _ c=>absurd c (K S A)⟩
   ·rcases g4 F with⟨C,o,j,t,B,z,A,D,Q,a6,a7,a8⟩|⟨S,a,B,z,A,D⟩
    ·refine .inl ⟨C,o,j,t,B,z,A,D,Q,a6,a7,fun c d e=>?_⟩;have:=(a8 c d e).2.1;omega
    ·exact .inr ⟨S,a,B,L S z,A,fun _ c=>absurd c (K S z)⟩}
theorem Sz{g o j:Nat}{t:List Int}(hg:g<=2147483647)(ho:o<=2147483647)(hj:j<=2147483647){x y:Int}(ht:t=[x,y])(hx:0<=x/\x<=2147483647)(hy:0<=y/\y<=2147483647):dU (fE g o j t)=0/\Good (fE g o j t):=by
 subst ht
 have u:dL (fE g o j [x,y])=0:=Lo (by unfold fE;simp only;omega) (by unfold fE;simp) (by unfold fE;simp) (fun n h=>by
  simp only[fE,fj,aj,n7,aCs,aEt] at h
  rcases h with rfl | rfl | rfl | rfl | rfl<;>omega)
 have:=(Go.WX.l9 u).1;exact⟨this,qP this (fun b z=>by simp[fE] at z)⟩
theorem Fs(h:Inv v now snaps s){g:Nat}(h1:1<=g)(h2:g<=v.fb)(h3:s.first=g){t:List Int}(ht:jX (snaps.getD v.k [])=some t):Ib v snaps s (fE g v.ob v.k t):=by
 have:=h.pos;exact .inl ⟨g,v.ob,v.k,t,rfl,h1,h2,h.pos.2,YV _,YV _,ht,fun c _ e=>⟨rfl,by rw[h3,c],h.idle (by rw[h3,c]) (by rw[c] at e;exact e)⟩⟩
theorem Jl(h:Inv v now snaps s)(h0:0<=s.first)(hs:s.VK=s.receiver.1):s.VK=pY v.fb v.ob:=by
 have B:=h.D4;rcases h.first with⟨A,_⟩|⟨g,A,C,D,u⟩
 ·omega
 ·rcases h.VK with c |⟨o,E,F,z,G⟩
  ·rw[u] at hs;have:=yU g v.ob;simp only at hs;omega
  ·rw[u,z] at hs;rw[z,(sV (by omega) (by omega) hs).2]
theorem BR(h:Inv v now snaps s)(h0:0<=s.first)(ha:tB v s s.receiver.1):Ib v snaps s (Ad s.receiver.1 v.x):=by
 refine .inr ⟨_,v.x,rfl,ha,fun c=>?_,fun _ _=>YV _⟩;rcases h.act (Jl h h0 c.symm) with⟨u,_⟩|⟨u,z,A⟩
 ·exact .inl (by omega)
 ·exact .inr ⟨u,z,by omega⟩
theorem JG(h:Inv v now snaps s)(hx:v.x+1<=100000)(h0:0<=s.first)(ha:tB v s s.receiver.1){to:Nat}(XJ:v.k<to)(hle:to<=v.h){d':(List aQ)×(List (Int×aQ))×Int}(hd:oH d' (snaps.getD to []) to v.ob)
  (hq:s.VK=s.receiver.1->v.x=v.q/\s.VM.2.2≠ []/\s.sent=to):
  Inv { v with k:=to,x:=v.x+1 } now snaps { s with YB:=(to:Int),receiver:=(s.receiver.1,((v.x+1:Nat):Int)),o6:=(v.n:Int),od:=d' }:=by
 have m5:=h.D4;have ga:=h.safe;have Q:s.VK=pY v.fb v.ob->s.VK=s.receiver.1:=by
  intro e;rcases h.VK with c |⟨o,O,P,K,c4⟩
  ·have:=yU v.fb v.ob;omega
  ·rw[K] at e;have F:=(sV (by omega) (by omega) e).2;rcases h.first with⟨z,_⟩|⟨g,z,G,H,d4⟩
   ·omega
   ·have:=c4 F;have u:g=v.fb:=by omega
    rw[d4,K,u,F]
 exact { h with
  D4:=by simp only;omega
  Y3:=rfl
  kh:=hle
  H4:=hd
  ou:=rfl
  safe:=by simp only;omega
  idle:=fun c d=>by
   obtain⟨M,o,C,R,T,U,D,V⟩:=ha;rcases h.first with⟨z,_⟩|⟨g,z,G,H,d4⟩
   ·omega
   ·simp only at c d;have u:g=v.fb:=by omega
    rw[d4,u] at C;obtain⟨X,F⟩:=sV (by omega) (by omega) C;rw[d4,u] at D;simp only at D;omega
  first:=by
   rcases h.first with⟨z,_⟩|⟨g,z,G,H,d4⟩
   ·omega
   ·exact .inr ⟨g,z,G,H,by simp only;rw[d4]⟩
  act:=fun e=>by
   obtain⟨a1,a2,B⟩:=hq (Q e);exact .inr ⟨by simp only;omega,a2,B⟩
  WK:=fun y A=>by
   have A:=h.WK y A;refine⟨A.bytes,A.len,A.ne,A.G7,fun u=>?_⟩;obtain⟨f,g1,N,g3,g4⟩:=A.whole u;refine⟨f,g1,N,fun I=>?_,fun I=>?_⟩
   ·rcases g3 I with c |⟨S,q,m',a1,a2,B,E,L⟩
    ·exact .inl c
    ·refine .inr ⟨S,q,m',a1,a2,B,E,fun c d=>?_⟩;have:=(L c d).1;exact⟨by simp only;omega,fun e=>by simp only at e;omega⟩
   ·rcases g4 I with⟨M,o,j,t,a1,a2,B,E,L,a6,a7,a8⟩|⟨S,a,a1,a2,B,E⟩
    ·refine .inl ⟨M,o,j,t,a1,a2,B,E,L,by simp only;omega,a7,fun c d e=>?_⟩;have hf:=(a8 c d e).2.1;obtain⟨N,o2,C,R,T,U,D,V⟩:=ha;rcases h.first with⟨z,_⟩|⟨g,z,G,H,d4⟩
     ·omega
     ·simp only at c d e;have u:g=v.fb:=by omega
      rw[d4,u] at C;obtain⟨X,F⟩:=sV (by omega) (by omega) C;rw[d4,u] at D;simp only at D;rw[c,d] at e;omega
    ·refine .inr ⟨S,a,a1,a2,fun c=>?_,fun c d=>by have:=E c d;simp only;omega⟩;rcases B c with c |⟨O,P,K⟩
     ·exact .inl c
     ·exact .inr ⟨O,P,by simp only;omega⟩}
end Go.XE
namespace Go.XE
open Go Go.Sw Go.Mo Go.Pl
open Go.YS (oH xQ)
open Go.WX (Good bP fA dL dU qP Hv No qG kG)
variable {v:Nm}{now:List aQ}{snaps:List (List aQ)}{s:PS}
theorem EF(dir:Bool)(b:List Int)(b0 b1 b2 b3 b4 b5 b6 b7 b8 b9 WY WW XD WT XA WV WZ WR XN XM XL XK):
  eF dir (true,b) b0 b1 b2 b3 b4 b5 b6 b7 b8 b9 WY WW XD WT XA WV WZ WR XN XM XL XK=some WR:=rfl
theorem Kq(h:Inv v now snaps s)(h0:0<=s.first):(0<=s.receiver.1/\s.receiver.1<=2147483647)/\s.receiver.2=v.x:=by
 have A:=h.D4;rcases h.first with⟨u,_⟩|⟨g,u,B,C,z⟩
 ·omega
 ·rw[z];refine⟨?_,rfl⟩;show 0<=pY g v.ob/\pY g v.ob<=2147483647;unfold pY;omega
theorem Nt(b:List Int)(u:Fm)(e:Option Int)(hu:fM b=some (u,e))(hn:e.isSome=true\/u.1≠2)
  (hr:0<=s.first->∃fr,oB s.receiver b=some (s.receiver,fr,false,(true,[]),none)):eD b s=some (none,s):=by
 unfold eD cN;have A:(bif Option.isNone e then bif cm .eql u.1 (2:Int) then some (cm .eql (u.2.1.length:Int) (1:Int)) else some false else some false)=some false:=by
  rcases hn with c | c
  ·cases e with
   |none=>cases c
   |some e=>rfl
  ·have:cm .eql u.1 (2:Int)=false:=by rw[ce];exact ZQ c
   rw[this];cases e<;>rfl
 rw[hu,cM];simp only[];rw[A,cM];simp only[pF];by_cases z:s.first<0
 ·have h:cm .lss s.first (0:Int)=true:=by rw[cl];exact A7 z
  rw[h];simp only[XP,cM]
 ·have h:cm .lss s.first (0:Int)=false:=by rw[cl];exact ZQ z
  obtain⟨fr,hr⟩:=hr (by omega);rw[h,hr];simp only[pF,cM,j1,jp,EF]
def NK(v:Nm)(snaps:List (List aQ))(s s':PS)(x':Nat):Prop:=s'.first=v.fb/\s'.VK=s.VK/\s'.VM=s.VM/\s'.sent=s.sent/\s'.safe=s.safe/\(s.first=v.fb->x'=v.x)/\
 ∃x y,jX (snaps.getD v.k [])=some [x,y]/\s'.WK=oM s.WK (false,false,bP (fE v.fb v.ob v.k [x,y]))
theorem EG(h:Inv v now snaps s){b:List Int}{g:Nat}(h1:1<=g)(h2:g<=v.fb)(hu:fM b=some (kP g,none)):
  ∃x' s',x'<=v.x/\eD b s=some (none,s')/\Inv { v with x:=x' } now snaps s'/\Sx s s'/\(g=v.fb->NK v snaps s s' x'):=by
 have R:=h.D4;have S:=h.kh;have T:=h.hs;have U:=h.n1;have V:=h.n0;have H:snaps.getD v.k []∈snaps:=by
  rw[P6,E4 (by omega)];exact fh _
 have M:(snaps.getD v.k []).length=v.n:=h.ep.len _ H;have A:=xQ h.H4;rw[M,<-h.ou] at A;obtain⟨x,y,u,O,P⟩:=IZ (bs:=snaps.getD v.k []) (by omega) (by omega) (h.bok _ H);obtain⟨L,D⟩:=Sz (g:=g) (o:=v.ob) (j:=v.k) (t:=[x,y]) (by omega) (by omega) (by omega) rfl O P;have I:((3:Int),([(g:Int),(v.ob:Int),(v.k:Int)]++[x,y]:List Int),([]:List aQ))=fE g v.ob v.k [x,y]:=rfl;have E:Sw.idx (kP g).2.1 (0:Int)=some (g:Int):=rfl;have F:cm .eql (kP g).1 (2:Int)=true:=rfl;have G:cm .eql ((kP g).2.1.length:Int) (1:Int)=true:=rfl;by_cases N:s.first<g
 ·have K:=EE h h1 h2 N;refine⟨0,{ s with first:=(g:Int),receiver:=(pY g v.ob,0),WK:=oM s.WK (false,false,bP (fE g v.ob v.k [x,y])) },by omega,?_,K.push (Ew D false (fun c=>nomatch c) (fun _=>Fs K h1 h2 rfl u)),.inr ⟨_,rfl⟩,fun e=>by subst e;exact⟨rfl,rfl,rfl,rfl,rfl,fun c=>by omega,x,y,u,rfl⟩⟩;unfold eD cN;have B:cm .gtr (g:Int) s.first=true:=by rw[cg];exact A7 (by omega)
  have z:cm .lss (g:Int) (g:Int)=false:=by rw[cl];exact ZQ (by omega)
  rw[hu,cM];simp only[gv,XP,F,G,cM,E,B,jp];rw[A,cM];simp only[j1,pF,cM,z];rw[u,cM,VN _ _ (by simp),cM,h.U6,h.Y3,JF (by omega) (by omega),I,Sy D L _ _ _ _ _ _ _ _ _ _ _ _ _ _ _ _ _ _ _ _ _ _ _ h.N4];rfl
 ·have B:cm .gtr (g:Int) s.first=false:=by rw[cg];exact ZQ (by omega)
  by_cases C:s.first=g
  ·refine⟨v.x,{ s with WK:=oM s.WK (false,false,bP (fE g v.ob v.k [x,y])) },YV _,?_,h.push (Ew D false (fun c=>nomatch c) (fun _=>Fs h h1 h2 C u)),.inr ⟨_,rfl⟩,fun e=>by subst e;exact⟨C,rfl,rfl,rfl,rfl,fun _=>rfl,x,y,u,rfl⟩⟩;unfold eD cN;have z:cm .lss (g:Int) s.first=false:=by rw[cl];exact ZQ (by omega)
   rw[hu,cM];simp only[gv,XP,F,G,cM,E,B,jp,pF];rw[A,cM];simp only[j1,pF,cM,z];rw[u,cM,VN _ _ (by simp),cM,h.U6,h.Y3,C,I,Sy D L _ _ _ _ _ _ _ _ _ _ _ _ _ _ _ _ _ _ _ _ _ _ _ h.N4];rw[<-C,<-h.Y3];rfl
  ·refine⟨v.x,s,YV _,?_,h,.inl rfl,fun e=>by exfalso;rcases h.first with⟨Q,_⟩|⟨X,Q,d2,d3,_⟩<;>omega⟩;unfold eD cN;have z:cm .lss (g:Int) s.first=true:=by rw[cl];exact A7 (by omega)
   rw[hu,cM];simp only[gv,XP,F,G,cM,E,B,jp,pF];rw[A,cM];simp only[j1,pF,cM,z,XP]
def QF(v:Nm)(s s':PS)(k' x':Nat)(S:Int)(q:Nat):Prop:=(S≠s.receiver.1->s'=s/\k'=v.k/\x'=v.x)/\
 (0<=s.first->S=s.receiver.1->S=s.VK->q=v.q->x'=v.q+1/\s'.first=s.first/\s'.VK=s.VK/\s'.VM=s.VM/\s'.sent=s.sent/\s'.safe=s.safe/\s'.WK=oM s.WK (false,false,bP (Ad S (v.q+1))))
theorem JH(h:Inv v now snaps s)(gm:v.x+1<=100000){b:List Int}(hb:Bytes b)(R8:b.length<=2000){S:Int}{q:Nat}{m:Fm}(hf:fA b=some (WS S q m))(hm:G1 m)(ha:tB v s S)
  (hs:S=s.VK->q<v.q\/(q=v.q/\s.VM.2.2=[m])) (hr:0<=s.first->S=s.receiver.1->q<=v.x/\(q=v.x->∃to,u1 v.n snaps v.k to m)):
  ∃k' x' s',v.k<=k'/\x'<=v.x+1/\eD b s=some (none,s')/\Inv { v with k:=k',x:=x' } now snaps s'/\Sx s s'/\QF v s s' k' x' S q:=by
 have m5:=h.D4;have qe:=h.kh;have ZM:=h.hs;have U:=h.n1;have V:=h.n0;have B:=qG b hb (by omega);rw[hf] at B;simp only at B;by_cases X:s.first<0
 ·exact⟨v.k,v.x,s,YV _,by omega,Nt b _ none B (.inr (by unfold WS;simp)) (fun c=>by omega),h,.inl rfl,fun _=>⟨rfl,rfl,rfl⟩,fun c=>absurd c (by omega)⟩
 ·obtain⟨ah,ai⟩:=Kq h (by omega);have A:=No s.receiver b hb R8 ah (by omega);rw[hf] at A;by_cases u:S=s.receiver.1
  ·obtain⟨ax,B6⟩:=hr (by omega) u;have aa:=(Go.WX.l9 hm.load);have ab:=qP aa.1 hm.YU;have ac:=ab.s1;have E:(WS S q m).1=1/\3<=(WS S q m).2.1.length/\(WS S q m).2.1.getD 0 0=s.receiver.1/\(WS S q m).2.1.getD 2 0<=15:=by
    refine⟨rfl,by unfold WS;simp,u,ac⟩
   have ad:(WS S q m).2.1.getD 1 0=q:=rfl;have ae:((WS S q m).2.1.getD 2 0,(WS S q m).2.1.drop 3,(WS S q m).2.2)=m:=rfl;unfold Hv at A;simp only[WU E,ad,ae] at A;have I:cm .eql (WS S q m).1 (2:Int)=false:=rfl;have K:cm .lss s.first (0:Int)=false:=by rw[cl];exact ZQ X
   have L:∀a:Nat,a<=2147483647->Good (Ad s.receiver.1 a):=fun a Y1=>by
    refine⟨by unfold Ad;simp,by unfold Ad;simp,by unfold Ad;simp,by unfold Ad;simp,fun n P=>?_,fun b hb=>by simp[Ad] at hb⟩;simp only[Ad,n7,aCs,aEt] at P;rcases P with rfl | rfl<;>omega
   by_cases M:(q:Int)=s.receiver.2/\s.receiver.2<2147483647
   ·rw[WU M] at A;simp only at A;have N:q=v.x:=by omega
    obtain⟨to,C⟩:∃to,u1 v.n snaps v.k to m/\(s.VK=s.receiver.1->v.x=v.q/\s.VM.2.2≠ []/\s.sent=to):=by
     by_cases c:s.VK=s.receiver.1
     ·rcases h.act (Jl h (by omega) c) with⟨D,a2,T⟩|⟨D,a2,T⟩
      ·rcases hs (by rw[u,c]) with d |⟨d1,H⟩
       ·omega
       ·exact⟨s.sent,T m H,fun _=>⟨D,by rw[H];simp,rfl⟩⟩
      ·rcases hs (by rw[u,c]) with d |⟨d1,H⟩<;>omega
     ·obtain⟨to,e⟩:=B6 N;exact⟨to,e,fun d=>absurd d c⟩
    obtain⟨C,am⟩:=C;have XJ:=C.lt;have an:=C.le;have ap:=C.nn;let s1:PS:={ s with receiver:=(s.receiver.1,s.receiver.2+1) }
    obtain⟨d',sd,et⟩:=ND (s:=s1) (snaps:=snaps) (n:=v.n) h.H4 rfl V U h.ep.len h.Y3 (by omega) (by omega) h.U6 (by omega) h.eon h.ou C;have O:s.receiver.2+1=((v.x+1:Nat):Int):=by omega
    have F:=JG h gm (by omega) (by rw[<-u];exact ha) (to:=to.toNat) (by omega) (by omega) sd (fun c=>by obtain⟨c1,c2,c3⟩:=am c;exact⟨c1,c2,by omega⟩);have af:((to.toNat:Nat):Int)=to:=by omega
    rw[af,<-O] at F
    have G:=BR F (by simp only;omega) (by
     obtain⟨g,o,Q,b2,b3,b4,R,b6⟩:=ha;rw[u] at Q R
     exact⟨g,o,Q,b2,b3,b4,R,b6⟩)
    refine⟨to.toNat,v.x+1,_,by omega,YV _,?_,F.push (Ew (L (v.x+1) (by omega)) false (fun c=>nomatch c) (fun _=>G)),.inr ⟨_,rfl⟩,fun c=>absurd u c,fun _ _ _ e=>⟨by omega,rfl,rfl,rfl,rfl,rfl,by rw[u,<-e,N]⟩⟩;unfold sB at et;unfold eD cN;rw[B,cM];simp only[gv,XP,I,cM,pF,K];rw[A,cM];simp only[j1,pF,XP,jp];cases hz:fD m s.n s.fn s.YC s.XC s.blocks s.VW s.WO s.VK s.VM s.sent s.safe s.VS s.on s.YB s.WH s.first (s.receiver.1,s.receiver.2+1) s.WK s.r8 s.fd s.o6 s.od with
    |none=>simp only[s1] at et;rw[hz] at et;cases et
    |some z=>
     simp only[s1] at et;rw[hz,cM] at et;simp only[B9,bm,PS.mk.injEq] at et;rw[cM];simp only[et,j1,pF];rw[Ig _ _ _ _ _ _ _ _ _ _ _ _ _ _ _ _ _ _ _ _ _ _ _ _ h.N4];simp only[cM,O];rfl
   ·have av:¬q=v.x:=by omega
    rw[WL M] at A;simp only at A;have G:=BR h (by omega) (by rw[<-u];exact ha);refine⟨v.k,v.x,_,YV _,by omega,?_,h.push (Ew (L v.x (by omega)) false (fun c=>nomatch c) (fun _=>G)),.inr ⟨_,rfl⟩,fun c=>absurd u c,fun _ _ c e=>(fun (z:v.x=v.q+1)=>⟨z,rfl,rfl,rfl,rfl,rfl,by rw[u,<-z]⟩) (by rcases h.act (Jl h (by omega) (by rw[<-c,u])) with⟨D,_⟩|⟨D,_⟩<;>omega)⟩;unfold eD cN;rw[B,cM];simp only[gv,XP,I,cM,pF,K];rw[A,cM];simp only[j1,pF,jp];rw[Ig _ _ _ _ _ _ _ _ _ _ _ _ _ _ _ _ _ _ _ _ _ _ _ _ h.N4];simp only[cM,ai];rfl
  ·refine⟨v.k,v.x,s,YV _,by omega,Nt b _ none B (.inr (by unfold WS;simp)) (fun _=>⟨(0,[],[]),?_⟩),h,.inl rfl,fun _=>⟨rfl,rfl,rfl⟩,fun _ c=>absurd c u⟩;rw[A];have E:¬((WS S q m).1=1/\3<=(WS S q m).2.1.length/\(WS S q m).2.1.getD 0 0=s.receiver.1/\(WS S q m).2.1.getD 2 0<=15):=fun c=>u c.2.2.1;unfold Hv;simp only[WL E]
theorem Wd(h:Inv v now snaps s)(gm:v.x+1<=100000){y:Bool×Bool×List Int}(hy:u3 v snaps s y)(hd:y.1=true):
  ∃k' x' s',v.k<=k'/\x'<=v.x+1/\eD y.2.2 s=some (none,s')/\Inv { v with k:=k',x:=x' } now snaps s'/\Sx s s':=by
 have E:=hy.len;have u:=qG y.2.2 hy.bytes (by omega);by_cases z:y.2.1=true
 ·rw[hy.G7 z] at u;refine⟨v.k,v.x,s,YV _,by omega,Nt _ _ _ u (.inl rfl) (fun H=>⟨(0,[],[]),?_⟩),h,.inl rfl⟩;obtain⟨I,U⟩:=Kq h H;have T:=h.D4;rw[No s.receiver _ hy.bytes E I (by omega),hy.G7 z];rfl
 ·obtain⟨f,K,L,M,_⟩:=hy.whole (by simpa using z);have F:fA y.2.2=some f:=by rw[L];exact kG K
  rw[F] at u;rcases M hd with⟨g,O,D,rfl⟩|⟨S,q,m,rfl,D,P,Q,R⟩
  ·obtain⟨x',s',G,A,B,C,_⟩:=EG h O D u;exact⟨v.k,x',s',YV _,by omega,A,B,C⟩
  ·obtain⟨k',x',s',G,A,B,C,N,_⟩:=JH h gm hy.bytes E F D P Q R;exact⟨k',x',s',G,A,B,C,N⟩
end Go.XE
namespace Go.XE
open Go Go.Sw Go.Mo Go.Pl
open Go.YS (oH xQ)
open Go.WX (Good bP fA dL dU qP Gn Ac qG kG nA)
variable {v:Nm}{now:List aQ}{snaps:List (List aQ)}{s:PS}
theorem VC(x y:Int):jF [x,y] [x,y]=some true:=by
 unfold jF;have e:cm .neq (([x,y]:List Int).length:Int) (([x,y]:List Int).length:Int)=false:=by rw[cn];simp
 rw[e,pF];unfold lp;rw[show fJ=1125899906842621+1+1+1 from rfl,Go.WX.q9 (y:=(1:Int)),Go.WX.q9 (y:=(2:Int)),Go.WX.l8 (b:= .WM ())]
 ·rfl
 ·have h:Sw.idx [x,y] (1:Int)=some y:=rfl;have u:cm .neq y y=false:=by rw[cn];simp
  have z:cm .lss (1:Int) (([x,y]:List Int).length:Int)=true:=rfl;rw[z,XP,h,cM,cM,u,pF];rfl
 ·have h:Sw.idx [x,y] (0:Int)=some x:=rfl;have u:cm .neq x x=false:=by rw[cn];simp
  have z:cm .lss (0:Int) (([x,y]:List Int).length:Int)=true:=rfl;rw[z,XP,h,cM,cM,u,pF];rfl
theorem Inv.aE6(h:Inv v now snaps s){e}(he:lg v.n e now snaps):Inv v now snaps { s with VW:=e }:=
 { h with
  ep:=he
  WK:=fun y u=>(h.WK y u).same rfl rfl rfl rfl rfl }
theorem Rd(h:Inv v now snaps s){o j:Nat}(h1:1<=o)(h2:o<=v.ob)(hj:j<=v.k)(XJ:s.VK<pY v.fb o)
  (ha:o=v.ob->s.VK<pY v.fb o->j=v.k/\s.first=(v.fb:Int)/\v.x=0) {sent:Int} (aOk:sent=j\/(sent= -1/\j<v.h)):
  Inv { v with q:=0 } now snaps { s with VK:=pY v.fb o,VM:=(pY v.fb o,0,[]),sent:=sent,safe:=max s.safe (j:Int),VS:=[] }:=by
 have m5:=h.D4;have qe:=h.kh;have ga:=h.safe;have C:∀S,tB v s S->S≠pY v.fb o/\tB { v with q:=0 } { s with VK:=pY v.fb o,VM:=(pY v.fb o,0,[]),sent:=sent,safe:=max s.safe (j:Int),VS:=[] } S:=by
  rintro S ⟨F,G,H,X,b3,b4,M,b6⟩;refine⟨fun e=>?_,F,G,H,X,b3,b4,?_,b6⟩
  ·rw[H] at e;obtain⟨P,Q⟩:=sV (by omega) (by omega) e;rcases M with c |⟨I,K⟩
   ·omega
   ·rw[H,P,Q] at K;omega
  ·rcases M with c |⟨I,K⟩
   ·exact .inl c
   ·exact .inr ⟨I,by simp only;omega⟩
 exact { h with
  D4:=by simp only;omega
  safe:=by simp only;omega
  sent:=by simp only;omega
  low:=fun _=>by simp only;omega
  idle:=fun c d=>h.idle c (by simp only at d;omega)
  VK:= .inr ⟨o,h1,h2,rfl,fun e=>(ha e XJ).2.1⟩
  VM:= .inr ⟨yU _ _,rfl,rfl⟩
  queue:= .inl ⟨rfl,rfl⟩
  act:=fun e=>by
   simp only at e;obtain⟨B,z,A⟩:=ha (sV (by omega) (by omega) e).2 XJ;refine .inl ⟨A,fun _=>?_,fun m N=>by simp at N⟩;simp only;rcases aOk with c |⟨I,K⟩
   ·left;omega
   ·right;omega
  WK:=fun y u=>by
   have u:=h.WK y u;refine⟨u.bytes,u.len,u.ne,u.G7,fun O=>?_⟩;obtain⟨f,R,T,U,V⟩:=u.whole O;refine⟨f,R,T,fun E=>?_,fun E=>?_⟩
   ·rcases U E with c |⟨S,q,m',B,z,A,D,L⟩
    ·exact .inl c
    ·exact .inr ⟨S,q,m',B,z,(C S A).2,fun c=>absurd c (C S A).1,L⟩
   ·rcases V E with⟨F,G,j',t',B,z,A,D,L,a6,a7,a8⟩|⟨S,a,B,z,A,D⟩
    ·exact .inl ⟨F,G,j',t',B,z,A,D,L,a6,a7,fun c d e=>a8 c d (by simp only at e;omega)⟩
    ·exact .inr ⟨S,a,B,(C S z).2,fun c=>absurd c (C S z).1,D⟩}
theorem EH(h:Inv v now snaps s)(kg:v.q+1<=100000)(h0:0<=s.VK){m:Fm}(hq:s.VM.2.2=[m])(hk:s.sent<=v.k):
  Inv { v with q:=v.q+1 } now snaps { s with VM:=(s.VK,((v.q+1:Nat):Int),[]),safe:=max s.safe s.sent,VS:=[] }:=by
 have K:=h.D4;have L:=h.kh;have M:=h.safe
 exact { h with
  D4:=by simp only;omega
  safe:=by simp only;omega
  low:=fun _=>by simp only;omega
  VM:= .inr ⟨h0,rfl,rfl⟩
  queue:= .inl ⟨rfl,rfl⟩
  act:=fun e=>by
   rcases h.act e with⟨a1,a2,a3⟩|⟨a1,a2,a3⟩
   ·have:=(a3 m hq).lt;omega
   ·exact .inl ⟨by simp only;omega,fun _=> .inl a3,fun m B=>by simp at B⟩
  WK:=fun y u=>by
   have u:=h.WK y u;refine⟨u.bytes,u.len,u.ne,u.G7,fun C=>?_⟩;obtain⟨f,D,E,F,G⟩:=u.whole C;refine⟨f,D,E,fun z=>?_,fun z=>?_⟩
   ·rcases F z with c |⟨S,q,H,a1,a2,a3,A,I⟩
    ·exact .inl c
    ·exact .inr ⟨S,q,H,a1,a2,a3,fun c=> .inl (by have:=A c;simp only;omega),I⟩
   ·rcases G z with c |⟨S,a,a1,a2,a3,A⟩
    ·exact .inl c
    ·exact .inr ⟨S,a,a1,a2,fun c=> .inl (by have:=a3 c;simp only;omega),A⟩}
def Yr(v:Nm)(u:Fm)(e:Option Int):Prop:=e.isSome=true\/u.1≠3\/∃g o j x y,u=fE g o j [x,y]/\g≠v.fb
theorem Re{u:Fm}{e:Option Int}(h:Yr v u e):(bif (Option.isNone e) then
  bif (cm .eql u.1 (3:Int)) then
   bif (cm .eql (u.2.1.length:Int) (5:Int)) then
    (Sw.idx u.2.1 (0:Int)).bind fun Z8=>
     some (cm .eql Z8 (v.fb:Int))
   else
    some false
  else
   some false
  else
   some false)=some false:=by
 rcases h with c | c |⟨g,o,j,x,y,rfl,D⟩
 ·cases e with
  |none=>cases c
  |some e=>rfl
 ·have:cm .eql u.1 (3:Int)=false:=by rw[ce];exact ZQ c
  rw[this];cases e<;>rfl
 ·have z:cm .eql (fE g o j [x,y]).1 (3:Int)=true:=rfl;have A:cm .eql ((fE g o j [x,y]).2.1.length:Int) (5:Int)=true:=rfl;have B:Sw.idx (fE g o j [x,y]).2.1 (0:Int)=some (g:Int):=rfl;have C:cm .eql (g:Int) (v.fb:Int)=false:=by rw[ce];exact ZQ (by omega)
  rw[z,A,B,cM,C];cases e<;>rfl
theorem Ih(h:Inv v now snaps s){b:List Int}{u:Fm}{e:Option Int}(hu:fM b=some (u,e))(hn:Yr v u e)
  (hh:0<=s.VK->rZ s.VM b=some (s.VM,none)):∃s',eT b s=some (none,s')/\Inv v now snaps s'/\s'.WK=s.WK:=by
 have H:=h.D4;have I:=h.safe;have K:=h.kh;have L:s.VW.1=v.h:=by have:=h.ep.num;have:=h.hs;omega
 have A:=Re hn;by_cases B:s.VK<0
 ·refine⟨s,?_,h,rfl⟩;unfold eT cR;have z:cm .lss s.VK (0:Int)=true:=by rw[cl];exact A7 B
  rw[hu,cM,h.ZP];simp only[];rw[A];simp only[cM,pF,z,XP];rw[<-h.ZP]
 ·obtain⟨F,G⟩:=h.ep.drop (num:=min s.safe s.VW.1) (by omega);refine⟨_,?_,h.aE6 G,rfl⟩;unfold eT cR;have z:cm .lss s.VK (0:Int)=false:=by rw[cl];exact ZQ B
  rw[hu,cM,h.ZP];simp only[];rw[A];simp only[cM,pF,z];rw[hh (by omega)];simp only[cM,j1,pF];have C:ar .sub .i64 (s.VM.2.2.length:Int) (s.VM.2.2.length:Int)=0:=by rw[M8 (by omega)];omega
  have D:Sw.sub s.VS (0:Int) 0=some []:=by unfold Sw.sub;rw[WU (by omega)];rfl
  have E:Sw.sub s.VS (0:Int) (s.VS.length:Int)=some s.VS:=by unfold Sw.sub;rw[WU (by omega)];simp
  rw[C,D,cM];unfold lp;rw[show fJ=1125899906842623+1 from rfl,Go.WX.l8 (b:= .WM s.safe)]
  ·simp only[];rw[E,cM,h.efn,F,cM];rw[<-h.ZP,<-h.efn];rfl
  ·rfl
end Go.XE
namespace Go.XE
open Go Go.Sw Go.Mo Go.Pl
open Go.YS (oH xQ)
open Go.WX (Good bP fA dL dU qP Gn Ac qG kG nA jI)
variable {v:Nm}{now:List aQ}{snaps:List (List aQ)}{s:PS}
def SS(v:Nm)(s s':PS)(q' o j:Nat):Prop:=s'.first=s.first/\(s.VK<pY v.fb o->s'.VK=pY v.fb o/\s'.VM.2.2=[])/\(¬s.VK<pY v.fb o->s'=s/\q'=v.q)
theorem We(h:Inv v now snaps s){b:List Int}{o j:Nat}{x y:Int}(hu:fM b=some (fE v.fb o j [x,y],none))(h1:1<=o)(h2:o<=v.ob)(hj:j<=v.k)(ht:jX (snaps.getD j [])=some [x,y])
  (ha:o=v.ob->s.VK<pY v.fb o->j=v.k/\s.first=(v.fb:Int)/\v.x=0):∃q' s',q'<=v.q/\eT b s=some (none,s')/\Inv { v with q:=q' } now snaps s'/\s'.WK=s.WK/\SS v s s' q' o j:=by
 have M:=h.D4;have N:=h.kh;have A:Sw.idx (fE v.fb o j [x,y]).2.1 (0:Int)=some (v.fb:Int):=rfl;have B:Sw.idx (fE v.fb o j [x,y]).2.1 (1:Int)=some (o:Int):=rfl;have H:Sw.idx (fE v.fb o j [x,y]).2.1 (2:Int)=some (j:Int):=rfl;have C:cm .eql (fE v.fb o j [x,y]).1 (3:Int)=true:=rfl;have D:cm .eql ((fE v.fb o j [x,y]).2.1.length:Int) (5:Int)=true:=rfl;have E:cm .eql (v.fb:Int) (v.fb:Int)=true:=by rw[ce];simp
 have K:Sw.sub (fE v.fb o j [x,y]).2.1 (3:Int) ((fE v.fb o j [x,y]).2.1.length:Int)=some [x,y]:=rfl;have F:=JF (g:=v.fb) (o:=o) (by omega) (by omega);by_cases u:s.VK<pY v.fb o
 ·have z:cm .gtr (pY v.fb o) s.VK=true:=by rw[cg];exact A7 u
  cases hp:fK s.WO (j:Int) with
  |none=>
   have L:j<v.h:=by
    rcases L7 j v.h with c | c
    ·exact c
    ·have:j=v.h:=by omega
     rw[this,h.last] at hp;cases hp
   have G:=Rd h h1 h2 hj u ha (sent:= -1) (.inr ⟨rfl,L⟩);refine⟨0,_,by omega,?_,G,rfl,rfl,fun _=>⟨rfl,rfl⟩,fun c=>absurd u c⟩;unfold eT cR;rw[hu,cM,h.ZP];simp only[gv,XP,C,D,A,B,H,E,cM,F,z,jp,hp,j1,vm]
  |some l=>
   have I:=h.WO _ (Ic hp);simp only[n9] at I;rw[<-I.2.2] at ht;have G:=Rd h h1 h2 hj u ha (sent:=(j:Int)) (.inl rfl);refine⟨0,_,by omega,?_,G,rfl,rfl,fun _=>⟨rfl,rfl⟩,fun c=>absurd u c⟩;unfold eT cR;rw[hu,cM,h.ZP];simp only[gv,XP,C,D,A,B,H,E,cM,F,z,jp,hp,aCv,kt,pF,zj,ht,K,VC]
 ·have z:cm .gtr (pY v.fb o) s.VK=false:=by rw[cg];exact ZQ u
  refine⟨v.q,s,YV _,?_,h,rfl,rfl,fun c=>absurd c u,fun _=>⟨rfl,rfl⟩⟩;unfold eT cR;rw[hu,cM,h.ZP];simp only[gv,XP,C,D,A,B,E,cM,F,z,jp,pF];rw[<-h.ZP]
theorem Jm(h:Inv v now snaps s)(h0:0<=s.VK):jI s.VM=0:=by
 have G:=h.D4;have H:=BP h;rcases h.VM with⟨B,_⟩|⟨B,C,D⟩
 ·omega
 ·have A:s.VM=(s.VK,(v.q:Int),s.VM.2.2):=by rw[<-C,<-D]
  rw[A];rcases h.queue with⟨z,E⟩|⟨m,z,E,F,I⟩
  ·rw[z];exact nA (by omega) (by omega) (by simp) (fun f u=>by simp at u)
  ·rw[z];exact nA (by omega) (by omega) (by simp) (fun f u=>by simp at u;subst u;exact F.load)
theorem NL(h:Inv v now snaps s)(kg:v.q+1<=100000){b:List Int}(hb:Bytes b)(R8:b.length<=2000){S:Int}{a:Nat}(hf:fA b=some (Ad S a))
  (hs:S=s.VK->a<=v.q\/(a=v.q+1/\s.VM.2.2≠ []/\s.sent<=v.k)):∃q' s',q'<=v.q+1/\eT b s=some (none,s')/\Inv { v with q:=q' } now snaps s'/\s'.WK=s.WK/\
   (0<=s.VK->S=s.VK->a=v.q+1->s.VM.2.2.length=1->s'.first=s.first/\s'.VK=s.VK/\s'.VM.2.2=[]/\s'.sent=s.sent):=by
 have m5:=h.D4;have qe:=h.kh;have ga:=h.safe;have z:=qG b hb (by omega);rw[hf] at z;simp only at z;have G:Yr v (Ad S a) none:= .inr (.inl (by unfold Ad;simp));by_cases D:0<=s.VK
 ·have u:=Ac s.VM b hb R8 (Jm h D);rw[hf] at u;unfold Gn at u;by_cases E:(Ad S a).1=0/\(Ad S a).2.2=[]/\(Ad S a).2.1.length=2/\(Ad S a).2.1.getD 0 0=s.VM.1/\s.VM.2.1<(Ad S a).2.1.getD 1 0/\(Ad S a).2.1.getD 1 0 - s.VM.2.1<=min (s.VM.2.2.length:Int) 4
  ·simp only[WU E] at u;obtain⟨_,_,_,H,O,P⟩:=E;have H:S=s.VM.1:=H;have R:(Ad S a).2.1.getD 1 0=(a:Int):=rfl;rw[R] at O P u;rcases h.VM with⟨L,_⟩|⟨L,F,M⟩
   ·omega
   ·have T:=hs (by rw[H,F]);rw[M] at O P;have I:a=v.q+1/\s.VM.2.2≠ []/\s.sent<=v.k:=by
     rcases T with d | d
     ·omega
     ·exact d
    obtain⟨I,_,aa⟩:=I;rcases h.queue with⟨C,Q⟩|⟨m,C,Q,d3,d4⟩
    ·exact absurd C ‹_›
    ·have N:=EH h kg D C aa;have J4:s.VW.1=v.h:=by have:=h.ep.num;have:=h.hs;omega
     obtain⟨A,B⟩:=N.ep.drop (num:=min (max s.safe s.sent) s.VW.1) (by simp only;omega);refine⟨v.q+1,_,YV _,?_,N.aE6 B,rfl,fun _ _ _ _=>⟨rfl,rfl,rfl,rfl⟩⟩;have U:(s.VM.1,(a:Int),s.VM.2.2.drop ((a:Int) - s.VM.2.1).toNat)=(s.VK,((v.q+1:Nat):Int),([]:List Fm)):=by
      rw[F,M,C,I];have:(((v.q+1:Nat):Int) - (v.q:Int)).toNat=1:=by omega
      rw[this];rfl
     rw[U] at u;have V:=Re G;unfold eT cR;have X:cm .lss s.VK (0:Int)=false:=by rw[cl];exact ZQ (by omega)
     rw[z,cM,h.ZP];simp only[];rw[V];simp only[cM,pF,X];rw[u];simp only[cM,j1,pF];rw[C,Q];have ZK:ar .sub .i64 (([m]:List Fm).length:Int) (([]:List Fm).length:Int)=1:=by rw[M8 (by simp)];simp
     have hz:Sw.sub [s.sent] (0:Int) 1=some [s.sent]:=rfl;have D7:Sw.sub [s.sent] (1:Int) (([s.sent]:List Int).length:Int)=some []:=rfl;rw[ZK,hz,cM];unfold lp;rw[show fJ=1125899906842622+1+1 from rfl,Go.WX.q9 (y:=((1:Int),max s.safe s.sent)),Go.WX.l8 (b:= .WM (max s.safe s.sent))]
     ·simp only[];rw[D7,cM,h.efn,A,cM];rw[<-h.ZP,<-h.efn];rfl
     ·rfl
     ·rfl
  ·simp only[WL E] at u;obtain⟨s',A,B,K⟩:=Ih h z G (fun _=>u);refine⟨v.q,s',by omega,A,B,K,fun _ c d e=>absurd ?_ E⟩;rcases h.VM with⟨L,_⟩|⟨L,F,M⟩
   ·omega
   ·refine⟨rfl,rfl,rfl,?_,?_,?_⟩
    ·show S=s.VM.1;rw[F,c]
    ·show s.VM.2.1<(a:Int);omega
    ·show (a:Int) - s.VM.2.1<=_;omega
 ·obtain⟨s',A,B,K⟩:=Ih h z G (fun c=>absurd c D);exact⟨v.q,s',by omega,A,B,K,fun c=>absurd c D⟩
theorem Ys(h:Inv v now snaps s)(kg:v.q+1<=100000){y:Bool×Bool×List Int}(hy:u3 v snaps s y)(hd:y.1=false):
  ∃q' s',q'<=v.q+1/\eT y.2.2 s=some (none,s')/\Inv { v with q:=q' } now snaps s'/\s'.WK=s.WK:=by
 have m5:=h.D4;have qe:=h.kh;have ZM:=h.hs;have P2:=h.n1;have jl:=h.n0;have E:=hy.len;have B:=qG y.2.2 hy.bytes (by omega);by_cases K:y.2.1=true
 ·have D:=fun G=>Ac s.VM y.2.2 hy.bytes E (Jm h G);rw[hy.G7 K] at B D;obtain⟨s',C,u,A⟩:=Ih h B (.inl rfl) D;exact⟨v.q,s',by omega,C,u,A⟩
 ·obtain⟨f,Q,R,_,T⟩:=hy.whole (by simpa using K);have F:fA y.2.2=some f:=by rw[R];exact kG Q
  rcases T hd with⟨g,o,j,t,rfl,V,N,O,X,a6,I,a8⟩|⟨S,a,rfl,V,N,O⟩
  ·have L:snaps.getD j []∈snaps:=by
    rw[P6,E4 (by omega)];exact fh _
   have ff:(snaps.getD j []).length=v.n:=h.ep.len _ L;obtain⟨x,z,U,_,_⟩:=IZ (bs:=snaps.getD j []) (by omega) (by omega) (h.bok _ L);have P:t=[x,z]:=by rw[U] at I;exact(pT I).symm
   subst P;rw[F] at B;simp only at B;by_cases M:g=v.fb
   ·subst M;obtain⟨q',s',C,u,A,H,_⟩:=We h B O X a6 I (a8 rfl);exact⟨q',s',by omega,u,A,H⟩
   ·obtain⟨s',C,u,A⟩:=Ih h B (.inr (.inr ⟨g,o,j,x,z,rfl,M⟩)) (fun G=>by
     have D:=Ac s.VM y.2.2 hy.bytes E (Jm h G);rw[F] at D;rw[D];unfold Gn;simp only[]
     rw[WL (fun c=>by have:=c.1;simp[fE] at this)])
    exact⟨v.q,s',by omega,C,u,A⟩
  ·obtain⟨q',s',C,u,A,H,_⟩:=NL h kg hy.bytes E F N;exact⟨q',s',C,u,A,H⟩
end Go.XE
namespace Go.XE
open Go Go.Sw Go.Mo Go.Pl
open Go.YS (oH xQ)
variable {v:Nm}{now:List aQ}{snaps:List (List aQ)}{s:PS}
def wt(l:List (Bool×Bool×List Int)):Nat:=(l.map fun y=>bif y.1 then 2 else 1).sum
theorem Yt(a b:List (Bool×Bool×List Int)):wt (a++b)=wt a+wt b:=by unfold wt;rw[aCq,List.sum_append]
theorem NM(l:List (Bool×Bool×List Int))(y:Bool×List Int):wt (oM l (false,y))<=wt l+1:=by
 unfold oM;split
 ·rw[Yt];simp[wt]
 ·omega
theorem NN(h:Inv v now snaps s)(kg:v.q+1<=100000)(gm:v.x+1<=100000){y:Bool×Bool×List Int}(hy:u3 v snaps s y):
  ∃k' q' x' s',v.k<=k'/\q'<=v.q+1/\x'<=v.x+1/\uN y s=some (none,s')/\Inv { v with k:=k',q:=q',x:=x' } now snaps s'/\wt s'.WK<wt s.WK+(bif y.1 then 2 else 1):=by
 by_cases A:y.1=true
 ·obtain⟨k',x',s',E,C,u,D,B⟩:=Wd h gm hy A;refine⟨k',v.q,x',s',E,by omega,C,?_,D,?_⟩
  rotate_left
  ·rw[A,XP];rcases B with B |⟨z,B⟩
   ·rw[B];omega
   ·rw[B];have:=NM s.WK z;omega
  unfold eD at u;unfold uN fV;rw[A,XP];cases hz:cN y.2.2 s.n s.fn s.YC s.XC s.blocks s.VW s.WO s.VK s.VM s.sent s.safe s.VS s.on s.YB s.WH s.first s.receiver s.WK s.r8 s.fd s.o6 s.od with
  |none=>rw[hz] at u;cases u
  |some z=>rw[hz] at u;exact u
 ·have A:y.1=false:=by simpa using A
  obtain⟨q',s',C,u,D,B⟩:=Ys h kg hy A;refine⟨v.k,q',v.x,s',YV _,C,by omega,?_,D,by rw[A,pF,B];omega⟩;unfold eT at u;unfold uN fV;rw[A,pF];cases hz:cR y.2.2 s.n s.fn s.YC s.XC s.blocks s.VW s.WO s.VK s.VM s.sent s.safe s.VS s.on s.YB s.WH s.first s.receiver s.WK s.r8 s.fd s.o6 s.od with
  |none=>rw[hz] at u;cases u
  |some z=>rw[hz] at u;exact u
theorem Yu(h:Inv v now snaps s)(kg:v.q+1<=100000)(gm:v.x+1<=100000){a:Int}(ha:E6 a):
  ∃k' q' x' s',v.k<=k'/\q'<=v.q+1/\x'<=v.x+1/\mY a s=some (none,s')/\Inv { v with k:=k',q:=q',x:=x' } now snaps s'/\(s.WK≠ []->wt s'.WK<wt s.WK):=by
 rcases Ie h ha with⟨Q,u⟩|⟨i,C,u,R,T⟩
 ·refine⟨v.k,v.q,v.x,s,YV _,by omega,by omega,?_,h,fun c=>absurd Q c⟩;unfold jM at u;unfold mY eW;cases hq:cD a s.n s.fn s.YC s.XC s.blocks s.VW s.WO s.VK s.VM s.sent s.safe s.VS s.on s.YB s.WH s.first s.receiver s.WK s.r8 s.fd s.o6 s.od with
  |none=>rw[hq] at u;cases u
  |some q=>
   rw[hq] at u;simp only[cM,B9,bm] at u;simp only[cM,u.2.1,vm,XP]
 ·have S:=h.N4;have D:=qO (E4 C);have E:=h.WK _ (fh C);generalize hy:s.WK[i]=y at D E
  have F:=h.V5 (l:=s.WK.take i++s.WK.drop (i+1)) (by simp;omega) (fun x A=>by
   rcases M4.1 A with A | A
   ·exact h.WK x (aCo A)
   ·exact h.WK x (aDq A))
  obtain⟨k',q',x',s',L,M,N,B,O,P⟩:=NN F kg gm (y:=y) (E.same rfl rfl rfl rfl rfl);refine⟨k',q',x',s',L,M,N,?_,O,fun _=>Nat.lt_of_lt_of_eq P ?_⟩
  rotate_left
  ·have e:=Y7 i s.WK;rw[aCy C,hy] at e;have G:=congrArg wt e;have H:wt (y::s.WK.drop (i+1))=(bif y.1 then 2 else 1)+wt (s.WK.drop (i+1)):=by unfold wt;simp
   rw[Yt,H] at G;simp only[Yt];omega
  unfold uN at B;unfold mY eW;rw[R,cM];simp only[kt,pF,D,cM];rw[Rb (by omega),cM];have I:ar .add .i64 (i:Int) (1:Int)=((i+1:Nat):Int):=r5 (by omega);have K:cS s.WK (i:Int) ((i+1:Nat):Int)=some (s.WK.take i++s.WK.drop (i+1)):=BO s.WK i C;rw[I,K,cM];cases hz:fV y s.n s.fn s.YC s.XC s.blocks s.VW s.WO s.VK s.VM s.sent s.safe s.VS s.on s.YB s.WH s.first s.receiver (s.WK.take i++s.WK.drop (i+1)) s.r8 s.fd s.o6 s.od with
  |none=>rw[hz] at B;cases B
  |some z=>rw[hz] at B;exact B
theorem BS(h:Inv v now snaps s)(r:Int×aQ×Int×Int×Int×List aQ):uO r s=some ((r.1,r.2.1,(v.h:Int),s.safe,(v.k:Int),snaps.getD v.k []),none,s):=by
 have B:=h.kh;have C:=h.hs;have z:snaps.getD v.k []∈snaps:=by
  rw[P6,E4 (by omega)];exact fh _
 have A:(snaps.getD v.k []).length=v.n:=h.ep.len _ z;have u:=xQ h.H4;rw[A,<-h.ou] at u;unfold uO fX;rw[u,h.enum,h.Y3];simp only[cM]
end Go.XE
namespace Go.XE
open Go Go.Sw Go.Mo Go.Pl
variable {v v':Nm}{now I6:List aQ}{snaps YD:List (List aQ)}{s s':PS}
def fns(i:Nat)(d:Int×Int×Int×aQ)(s:PS):=wG i d s.n s.fn s.YC s.XC s.blocks s.VW s.WO s.VK s.VM s.sent s.safe s.VS s.on s.YB s.WH s.first s.receiver s.WK s.r8 s.fd s.o6 s.od
theorem JI(i:Fin 11):uG ((i.1:Nat):Int)=some i.1:=by revert i;decide+kernel
theorem qR{d:Int×Int×Int×aQ}{i:Nat}{YU:aQ}{e:Option Int}(h':Inv v' I6 YD s')(hi:i<11)(hd:d.1=(i:Int))(hf:fns i d s=some (YU,e,WN s')):
  mZ d s=some ((e.getD 0,YU,(v'.h:Int),s'.safe,(v'.k:Int),YD.getD v'.k []),none,s'):=by
 have u:=BS h' (e.getD 0,YU,0,0,0,[]);have A:=JI ⟨i,hi⟩;simp only at A;have B:cm .lss d.1 (0:Int)=false:=by rw[cl];exact ZQ (by omega)
 have C:cm .geq d.1 (11:Int)=false:=by rw[J6];exact ZQ (by omega)
 unfold fns at hf;unfold uO at u;unfold mZ hX;rw[B,C];simp only[pF,cM,jp];rw[hd,A,cM,hf,cM];cases hz:fX (e.getD 0,YU,0,0,0,[]) s'.n s'.fn s'.YC s'.XC s'.blocks s'.VW s'.WO s'.VK s'.VM s'.sent s'.safe s'.VS s'.on s'.YB s'.WH s'.first s'.receiver s'.WK s'.r8 s'.fd s'.o6 s'.od with
 |none=>rw[hz] at u;cases u
 |some z=>
  rw[hz] at u;simp only[cM,B9,bm] at u;obtain⟨D,E⟩:=z;obtain⟨rfl,rfl,_⟩:=u;cases e with
  |none=>
   simp only[aEs] at hz;simp only[WN,j1,pF,cM,hz,aEs]
  |some c=>
   simp only[zj] at hz;simp only[WN,aCv,XP,kt,pF,cM,zj,hz]
theorem NO{d:Int×Int×Int×aQ}(h:Inv v now snaps s)(hd:d.1<0\/11<=d.1):
  mZ d s=some ((3,aS,(v.h:Int),s.safe,(v.k:Int),snaps.getD v.k []),none,s):=by
 have u:=BS h (3,aS,0,0,0,[]);have A:(bif (cm .lss d.1 (0:Int)) then some true else some (cm .geq d.1 (11:Int)))=some true:=by
  rw[cl,J6];by_cases c:d.1<0
  ·rw[A7 c];rfl
  ·rw[ZQ c,A7 (by omega)];rfl
 unfold uO at u;unfold mZ hX;rw[A];simp only[cM,jp,XP];cases hz:fX (3,aS,0,0,0,[]) s.n s.fn s.YC s.XC s.blocks s.VW s.WO s.VK s.VM s.sent s.safe s.VS s.on s.YB s.WH s.first s.receiver s.WK s.r8 s.fd s.o6 s.od with
 |none=>rw[hz] at u;cases u
 |some z=>
  rw[hz] at u;simp only[cM,B9,bm] at u;obtain⟨B,C⟩:=z;obtain⟨rfl,rfl,_⟩:=u;rfl
theorem BT{d:Int×Int×Int×aQ}{e:Option Int}(h:lI d.2.1 d.2.2.2 s=some (e,s')):fns 0 d s=some (aS,e,WN s'):=by
 unfold lI at h;unfold fns wG nO;cases hz:eS d.2.1 d.2.2.2 s.n s.fn s.YC s.XC s.blocks s.VW s.WO s.VK s.VM s.sent s.safe s.VS s.on s.YB s.WH s.first s.receiver s.WK s.r8 s.fd s.o6 s.od with
 |none=>rw[hz] at h;cases h
 |some z=>rw[hz] at h;simp only[cM,B9,bm] at h;obtain⟨u,rfl⟩:=h;rw[<-u];rfl
theorem Wg{d:Int×Int×Int×aQ}{e:Option Int}(h:lI d.2.1 aS s=some (e,s')):fns 1 d s=some (aS,e,WN s'):=by
 unfold lI at h;unfold fns wG nP;cases hz:eS d.2.1 aS s.n s.fn s.YC s.XC s.blocks s.VW s.WO s.VK s.VM s.sent s.safe s.VS s.on s.YB s.WH s.first s.receiver s.WK s.r8 s.fd s.o6 s.od with
 |none=>rw[hz] at h;cases h
 |some z=>rw[hz] at h;simp only[cM,B9,bm] at h;obtain⟨u,rfl⟩:=h;rw[<-u];rfl
theorem Wh{d:Int×Int×Int×aQ}{e:Option Int}(h:qQ s=some (e,s')):fns 3 d s=some (aS,e,WN s'):=by
 unfold qQ at h;unfold fns wG nR;cases hz:fP s.n s.fn s.YC s.XC s.blocks s.VW s.WO s.VK s.VM s.sent s.safe s.VS s.on s.YB s.WH s.first s.receiver s.WK s.r8 s.fd s.o6 s.od with
 |none=>rw[hz] at h;cases h
 |some z=>rw[hz] at h;simp only[cM,B9,bm] at h;obtain⟨u,rfl⟩:=h;rw[<-u];rfl
theorem JJ{d:Int×Int×Int×aQ}{e:Option Int}(h:lZ s=some (e,s')):fns 4 d s=some (aS,e,WN s'):=by
 unfold lZ at h;unfold fns wG nS;cases hz:eG s.n s.fn s.YC s.XC s.blocks s.VW s.WO s.VK s.VM s.sent s.safe s.VS s.on s.YB s.WH s.first s.receiver s.WK s.r8 s.fd s.o6 s.od with
 |none=>rw[hz] at h;cases h
 |some z=>rw[hz] at h;simp only[cM,B9,bm] at h;obtain⟨u,rfl⟩:=h;rw[<-u];rfl
theorem Wi{d:Int×Int×Int×aQ}{e:Option Int}(h:mY d.2.1 s=some (e,s')):fns 5 d s=some (aS,e,WN s'):=by
 unfold mY at h;unfold fns wG nT;cases hz:eW d.2.1 s.n s.fn s.YC s.XC s.blocks s.VW s.WO s.VK s.VM s.sent s.safe s.VS s.on s.YB s.WH s.first s.receiver s.WK s.r8 s.fd s.o6 s.od with
 |none=>rw[hz] at h;cases h
 |some z=>rw[hz] at h;simp only[cM,B9,bm] at h;obtain⟨u,rfl⟩:=h;rw[<-u];rfl
theorem JK{d:Int×Int×Int×aQ}{e:Option Int}(h:rG d.2.1 s=some (e,s')):fns 6 d s=some (aS,e,WN s'):=by
 unfold rG at h;unfold fns wG nU;cases hz:fW d.2.1 s.n s.fn s.YC s.XC s.blocks s.VW s.WO s.VK s.VM s.sent s.safe s.VS s.on s.YB s.WH s.first s.receiver s.WK s.r8 s.fd s.o6 s.od with
 |none=>rw[hz] at h;cases h
 |some z=>rw[hz] at h;simp only[cM,B9,bm] at h;obtain⟨u,rfl⟩:=h;rw[<-u];rfl
theorem Yv{d:Int×Int×Int×aQ}{e:Option Int}(h:lK d.2.1 s=some (e,s')):fns 7 d s=some (aS,e,WN s'):=by
 unfold lK at h;unfold fns wG nV;cases hz:eI d.2.1 s.n s.fn s.YC s.XC s.blocks s.VW s.WO s.VK s.VM s.sent s.safe s.VS s.on s.YB s.WH s.first s.receiver s.WK s.r8 s.fd s.o6 s.od with
 |none=>rw[hz] at h;cases h
 |some z=>rw[hz] at h;simp only[cM,B9,bm] at h;obtain⟨u,rfl⟩:=h;rw[<-u];rfl
theorem Yw{d:Int×Int×Int×aQ}{e:Option Int}(h:lL d s=some (e,s')):fns 10 d s=some (aS,e,WN s'):=by
 unfold lL at h;unfold fns wG mV;cases hz:eJ d s.n s.fn s.YC s.XC s.blocks s.VW s.WO s.VK s.VM s.sent s.safe s.VS s.on s.YB s.WH s.first s.receiver s.WK s.r8 s.fd s.o6 s.od with
 |none=>rw[hz] at h;cases h
 |some z=>rw[hz] at h;simp only[cM,B9,bm] at h;obtain⟨u,rfl⟩:=h;rw[<-u];rfl
theorem Wj{d:Int×Int×Int×aQ}{b:aQ}{e:Option Int}(h:oJ d.2.1 s=some (b,e,s)):fns 2 d s=some (b,e,WN s):=by
 unfold oJ at h;unfold fns wG nQ;cases hz:fU d.2.1 s.n s.fn s.YC s.XC s.blocks s.VW s.WO s.VK s.VM s.sent s.safe s.VS s.on s.YB s.WH s.first s.receiver s.WK s.r8 s.fd s.o6 s.od with
 |none=>rw[hz] at h;cases h
 |some z=>rw[hz] at h;simp only[cM,B9,bm] at h;obtain⟨u,A,_⟩:=h;rw[<-u,<-A];rfl
end Go.XE
namespace Go.XE
open Go Go.Sw Go.Mo Go.Pl
variable {v:Nm}{now:List aQ}{snaps:List (List aQ)}{s:PS}
theorem JL(bs:List aQ)(h:bs.length<=1000000):jL bs=some bs:=by
 unfold jL;rw[VN _ _ (by simp;omega)];rfl
structure zw (v v':Nm):Prop where
 n:v'.n=v.n
 h:v.h<=v'.h/\v'.h<=v.h+1
 k:v.k<=v'.k
 fb:v'.fb<=v.fb+1
 ob:v'.ob<=v.ob+1
 q:v'.q<=v.q+1
 x:v'.x<=v.x+1
def Kt(v:Nm)(now:List aQ)(snaps:List (List aQ))(s:PS)(d:Int×Int×Int×aQ):Prop:=
 ∃(v':Nm) (I6:List aQ) (YD:List (List aQ)) (s':PS) (pP:Int) (YU:aQ),iP now snaps d=some (pP,YU,I6,YD)/\
  mZ d s=some ((pP,YU,(v'.h:Int),s'.safe,(v'.k:Int),YD.getD v'.k []),none,s')/\Inv v' I6 YD s'/\zw v v'
theorem oO(v:Nm):zw v v:=⟨rfl,⟨YV _,by omega⟩,YV _,by omega,by omega,by omega,by omega⟩
theorem JN(h:Inv v now snaps s){a k:Int}{b:aQ}(hb:ZF b):Kt v now snaps s (0,a,k,b):=by
 have C:=h.ep.V9;by_cases u:0<=a/\a<v.n
 ·obtain⟨F,G,B⟩:=JB h u hb;refine⟨v,_,snaps,F,0,aS,?_,qR B (by omega) rfl (BT (d:=(0,a,k,b)) G),B,oO v⟩;obtain⟨z,H,_⟩:=wV (l:=now) (n:=a) u.1 (by rw[C];exact u.2);have D:cm .lss a (0:Int)=false:=by rw[cl];exact ZQ (by omega)
  have E:cm .geq a (now.length:Int)=false:=by rw[J6];exact ZQ (by omega)
  show ((bif cm .lss a (0:Int) then some true else some (cm .geq a (now.length:Int))).bind fun A=>bif A then some ((1:Int),aS,now,snaps) else (Sw.idx now a).bind fun _=>some ((0:Int),aS,(List.set now (Int.toNat a) b),snaps))=_;rw[D,E];simp only[pF,cM,H]
 ·refine⟨v,now,snaps,s,1,aS,?_,qR h (by omega) rfl (BT (d:=(0,a,k,b)) (BM h (show a<0\/a>=v.n by omega))),h,oO v⟩;have c:(bif cm .lss a (0:Int) then some true else some (cm .geq a (now.length:Int)))=some true:=by
   rw[cl,J6];by_cases c:a<0
   ·rw[A7 c];rfl
   ·rw[ZQ c,A7 (by omega)];rfl
  show ((bif cm .lss a (0:Int) then some true else some (cm .geq a (now.length:Int))).bind fun A=>bif A then some ((1:Int),aS,now,snaps) else (Sw.idx now a).bind fun _=>some ((0:Int),aS,(List.set now (Int.toNat a) b),snaps))=_;rw[c];rfl
theorem EI(h:Inv v now snaps s){a k:Int}{b:aQ}:Kt v now snaps s (1,a,k,b):=by
 have C:=h.ep.V9;by_cases u:0<=a/\a<v.n
 ·obtain⟨F,G,B⟩:=JB h u C4;refine⟨v,_,snaps,F,0,aS,?_,qR B (by omega) rfl (Wg (d:=(1,a,k,b)) G),B,oO v⟩;obtain⟨z,H,_⟩:=wV (l:=now) (n:=a) u.1 (by rw[C];exact u.2);have D:cm .lss a (0:Int)=false:=by rw[cl];exact ZQ (by omega)
  have E:cm .geq a (now.length:Int)=false:=by rw[J6];exact ZQ (by omega)
  show ((bif cm .lss a (0:Int) then some true else some (cm .geq a (now.length:Int))).bind fun A=>bif A then some ((1:Int),aS,now,snaps) else (Sw.idx now a).bind fun _=>some ((0:Int),aS,(List.set now (Int.toNat a) aS),snaps))=_;rw[D,E];simp only[pF,cM,H]
 ·refine⟨v,now,snaps,s,1,aS,?_,qR h (by omega) rfl (Wg (d:=(1,a,k,b)) (BM h (show a<0\/a>=v.n by omega))),h,oO v⟩;have c:(bif cm .lss a (0:Int) then some true else some (cm .geq a (now.length:Int)))=some true:=by
   rw[cl,J6];by_cases c:a<0
   ·rw[A7 c];rfl
   ·rw[ZQ c,A7 (by omega)];rfl
  show ((bif cm .lss a (0:Int) then some true else some (cm .geq a (now.length:Int))).bind fun A=>bif A then some ((1:Int),aS,now,snaps) else (Sw.idx now a).bind fun _=>some ((0:Int),aS,(List.set now (Int.toNat a) aS),snaps))=_;rw[c];rfl
theorem EJ(h:Inv v now snaps s){a k:Int}{b:aQ}:Kt v now snaps s (2,a,k,b):=by
 have C:=h.ep.V9;by_cases u:0<=a/\a<v.n
 ·refine⟨v,now,snaps,s,0,now.getD a.toNat [],?_,qR h (by omega) rfl (Wj (d:=(2,a,k,b)) (NH h u)),h,oO v⟩;obtain⟨z,F,G⟩:=wV (l:=now) (n:=a) u.1 (by rw[C];exact u.2);have D:cm .lss a (0:Int)=false:=by rw[cl];exact ZQ (by omega)
  have E:cm .geq a (now.length:Int)=false:=by rw[J6];exact ZQ (by omega)
  show ((bif cm .lss a (0:Int) then some true else some (cm .geq a (now.length:Int))).bind fun A=>bif A then some ((1:Int),aS,now,snaps) else (Sw.idx now a).bind fun B=>some ((0:Int),B,now,snaps))=_;rw[D,E];simp only[pF,cM,F];rw[P6,G];rfl
 ·refine⟨v,now,snaps,s,1,aS,?_,qR h (by omega) rfl (Wj (d:=(2,a,k,b)) (JC h (show a<0\/a>=v.n by omega))),h,oO v⟩;have c:(bif cm .lss a (0:Int) then some true else some (cm .geq a (now.length:Int)))=some true:=by
   rw[cl,J6];by_cases c:a<0
   ·rw[A7 c];rfl
   ·rw[ZQ c,A7 (by omega)];rfl
  show ((bif cm .lss a (0:Int) then some true else some (cm .geq a (now.length:Int))).bind fun A=>bif A then some ((1:Int),aS,now,snaps) else (Sw.idx now a).bind fun B=>some ((0:Int),B,now,snaps))=_;rw[c];rfl
theorem Ta(h:Inv v now snaps s)(hb:v.h+1<=100000){a k:Int}{b:aQ}:Kt v now snaps s (3,a,k,b):=by
 have D:=h.n1;have E:=h.hs;obtain⟨B,C,u⟩:=Yp h hb;refine⟨_,now,_,B,0,aS,?_,qR u (by omega) rfl (Wh (d:=(3,a,k,b)) C),u,⟨rfl,by simp only;omega,YV _,by simp only;omega,by simp only;omega,by simp only;omega,by simp only;omega⟩⟩;show ((jL now).bind fun z=>(Sw.app snaps ([z]:(List (List aQ)))).bind fun A=>some ((0:Int),aS,now,A))=_;rw[JL _ (by have:=h.ep.V9;omega),cM,VN _ _ (by simp;omega)];rfl
theorem EK(h:Inv v now snaps s){a k:Int}{b:aQ}:Kt v now snaps s (4,a,k,b):=by
 obtain⟨z,A,u,_⟩:=NJ h;exact⟨v,now,snaps,z,0,aS,rfl,qR u (by omega) rfl (JJ (d:=(4,a,k,b)) A),u,oO v⟩
theorem Tc(h:Inv v now snaps s)(kg:v.q+1<=100000)(gm:v.x+1<=100000){a k:Int}{b:aQ}(ha:E6 a):Kt v now snaps s (5,a,k,b):=by
 obtain⟨E,F,G,z,A,B,C,D,u,_⟩:=Yu h kg gm ha;exact⟨_,now,snaps,z,0,aS,rfl,qR u (by omega) rfl (Wi (d:=(5,a,k,b)) D),u,⟨rfl,by simp only;omega,A,by simp only;omega,by simp only;omega,B,C⟩⟩
theorem EL(h:Inv v now snaps s){a k:Int}{b:aQ}(ha:E6 a):Kt v now snaps s (6,a,k,b):=by
 obtain⟨z,A,u⟩:=NI h ha;exact⟨v,now,snaps,z,0,aS,rfl,qR u (by omega) rfl (JK (d:=(6,a,k,b)) A),u,oO v⟩
theorem Wk(h:Inv v now snaps s){a k:Int}{b:aQ}(ha:E6 a):Kt v now snaps s (7,a,k,b):=by
 obtain⟨z,A,u⟩:=DX h ha;exact⟨v,now,snaps,z,0,aS,rfl,qR u (by omega) rfl (Yv (d:=(7,a,k,b)) A),u,oO v⟩
theorem Wl(h:Inv v now snaps s)(hb:v.fb+1<=3000){a k:Int}{b:aQ}:Kt v now snaps s (8,a,k,b):=by
 have H:=h.D4;have I:=h.hs;have K:=h.n1;obtain⟨F,G,_,u⟩:=EA h hb (8,a,k,b);refine⟨_,_,snaps,F,0,aS,?_,qR (i:=8) u (by omega) rfl G,u,⟨rfl,by simp only;omega,YV _,YV _,by simp only;omega,by simp only;omega,by simp only;omega⟩⟩;have z:snaps.getD v.h []∈snaps:=by
  rw[P6,E4 (by omega)];exact fh _
 show ((gB (now,snaps)).bind fun C=>(Sw.idx snaps C).bind fun D=>(jL D).bind fun E=>some ((0:Int),aS,E,snaps))=_;have A:gB (now,snaps)=some (v.h:Int):=by
  unfold gB;rw[M8 (by simp only;omega)];simp only;congr 1;omega
 have B:Sw.idx snaps (v.h:Int)=some (snaps.getD v.h []):=qO (by rw[P6,E4 (by omega)];rfl);rw[A,cM,B,cM,JL _ (by have:=h.ep.len _ z;omega)];rfl
theorem Wm(h:Inv v now snaps s)(hb:v.ob+1<=3000){a k:Int}{b:aQ}:Kt v now snaps s (9,a,k,b):=by
 obtain⟨z,A,_,u⟩:=EB h hb (9,a,k,b);exact⟨_,now,snaps,z,0,aS,rfl,qR (i:=9) u (by omega) rfl A,u,⟨rfl,by simp only;omega,YV _,by simp only;omega,YV _,by simp only;omega,by simp only;omega⟩⟩
theorem Wn(h:Inv v now snaps s){a k:Int}{b:aQ}(ha:E6 a)(hk:E6 k)(hb:ZF b):Kt v now snaps s (10,a,k,b):=by
 obtain⟨z,A,u⟩:=DZ h (d:=(10,a,k,b)) ha hk hb;exact⟨v,now,snaps,z,0,aS,rfl,qR u (by omega) rfl (Yw (d:=(10,a,k,b)) A),u,oO v⟩
theorem SU(h:Inv v now snaps s)(hb:v.h+1<=100000/\v.fb+1<=3000/\v.ob+1<=3000/\v.q+1<=100000/\v.x+1<=100000){d:Int×Int×Int×aQ}(h1:E6 d.2.1)(h2:E6 d.2.2.1)(h3:ZF d.2.2.2):Kt v now snaps s d:=by
 obtain⟨c,a,k,b⟩:=d;simp only at h1 h2 h3;by_cases z:c<0\/11<=c
 ·refine⟨v,now,snaps,s,3,aS,?_,NO h z,h,oO v⟩;have A:(bif (cm .lss c (0:Int)) then some true else some (cm .geq c (11:Int)))=some true:=by
   rw[cl,J6];by_cases u:c<0
   ·rw[A7 u];rfl
   ·rw[ZQ u,A7 (by omega)];rfl
  unfold iP;rw[A];rfl
 ·have B:c=0\/c=1\/c=2\/c=3\/c=4\/c=5\/c=6\/c=7\/c=8\/c=9\/c=10:=by omega
  rcases B with rfl | rfl | rfl | rfl | rfl | rfl | rfl | rfl | rfl | rfl | rfl
  ·exact JN h h3
  ·exact EI h
  ·exact EJ h
  ·exact Ta h hb.1
  ·exact EK h
  ·exact Tc h hb.2.2.2.1 hb.2.2.2.2 h1
  ·exact EL h h1
  ·exact Wk h h1
  ·exact Wl h hb.2.1
  ·exact Wm h hb.2.2.1
  ·exact Wn h h1 h2 h3
end Go.XE
namespace Go.XE
open Go Go.Sw Go.Mo Go.Pl
abbrev lM:=Int×Int×Int×aQ
abbrev Bz:=Int×aQ×Int×Int×Int×List aQ
def wH(d:lM):Prop:=E6 d.2.1/\E6 d.2.2.1/\ZF d.2.2.2
inductive ee:Nm->List aQ->List (List aQ)->PS->List lM->List Bz->Nm->List aQ->List (List aQ)->PS->Prop where
 |nil {v now snaps s} (h:Inv v now snaps s):ee v now snaps s [] [] v now snaps s
 |cons {v now snaps s v' I6 YD s' v2 r6 YK s2} {d:lM} {ds:List lM} {rs:List Bz} {pP:Int} {YU:aQ} (h:Inv v now snaps s) (hc:iP now snaps d=some (pP,YU,I6,YD))
   (hd:mZ d s=some ((pP,YU,(v'.h:Int),s'.safe,(v'.k:Int),YD.getD v'.k []),none,s')) (h':Inv v' I6 YD s') (g:zw v v') (t:ee v' I6 YD s' ds rs v2 r6 YK s2):
   ee v now snaps s (d::ds) ((pP,YU,(v'.h:Int),s'.safe,(v'.k:Int),YD.getD v'.k [])::rs) v2 r6 YK s2
theorem BU:∀(ds:List lM) {v:Nm} {now:List aQ} {snaps:List (List aQ)} {s:PS},Inv v now snaps s->(∀d∈ds,wH d)->v.h+ds.length<=100000->v.fb+ds.length<=3000->v.ob+ds.length<=3000->v.q+ds.length<=100000->v.x+ds.length<=100000->
  ∃rs v2 r6 YK s2,ee v now snaps s ds rs v2 r6 YK s2/\rs.length=ds.length/\Inv v2 r6 YK s2
 | [],v,now,snaps,s,h,_,_,_,_,_,_=>⟨[],v,now,snaps,s,.nil h,rfl,h⟩
 |d::ds,v,now,snaps,s,h,A,L,M,N,O,P=>by
  simp only[E3] at L M N O P;obtain⟨C,D,E⟩:=A d (al ..);obtain⟨V,X,YD,s',pP,YU,F,G,z,u⟩:=SU h (by omega) C D E;have Q:=u.h;have R:=u.fb;have S:=u.ob;have T:=u.q;have U:=u.x;obtain⟨rs,v2,r6,YK,s2,H,I,K⟩:=BU ds z (fun x B=>A x (ak _ B)) (by omega) (by omega) (by omega) (by omega) (by omega);exact⟨_,v2,r6,YK,s2,.cons h F G z u H,by simp[I],K⟩
theorem Yx{n:Nat}(h0:1<=n)(h1:n<=32){ds:List lM}(hl:ds.length<=300)(hd:∀d∈ds,wH d):
  ∃s0 rs v2 r6 YK s2,iK (n:Int)=some (some (WN s0),none)/\Inv ⟨n,0,1,1,0,0,0⟩ (List.replicate n aS) [List.replicate n aS] s0/\
   ee ⟨n,0,1,1,0,0,0⟩ (List.replicate n aS) [List.replicate n aS] s0 ds rs v2 r6 YK s2/\rs.length=ds.length/\Inv v2 r6 YK s2:=by
 obtain⟨u,z,A,B,C⟩:=IU h0 h1;have h:=DW h0 h1 A B;obtain⟨rs,v2,r6,YK,s2,D,E,F⟩:=BU ds h hd (by simp only;omega) (by simp only;omega) (by simp only;omega) (by simp only;omega) (by simp only;omega);exact⟨Jk n u z,rs,v2,r6,YK,s2,C,h,D,E,F⟩
def OT(i:Int)(s:PS)(rs:List Bz):=(i,s.n,s.fn,s.YC,s.XC,s.VW,s.VK,s.VM,s.sent,s.safe,s.on,s.YB,s.WH,s.first,s.receiver,rs,s.r8,s.fd,s.blocks,s.WO,s.VS,s.o6,s.od,s.WK)
theorem JP{δ:Type}{step:_->Option (Step _ δ)}{l:List lM}{fin:PS->List Bz->δ}
  (hs:∀(i:Nat) (d:lM) (s s':PS) (acc:List Bz) (r:Bz),l[i]? =some d->i<=1000->acc.length<=1000->mZ d s=some (r,none,s')->step (OT (i:Int) s acc)=some (.next (OT ((i+1:Nat):Int) s' (acc++[r]))))
  (he:∀(s:PS) (acc:List Bz),step (OT (l.length:Int) s acc)=some (.done (fin s acc))) (hl:l.length<=1000):
  ∀{v now snaps s ds rs v2 r6 YK s2},ee v now snaps s ds rs v2 r6 YK s2->∀(pre:List lM) (acc:List Bz) (f:Nat),l=pre++ds->acc.length=pre.length->ds.length<f->
   loop step f (OT (pre.length:Int) s acc)=some (fin s2 (acc++rs)):=by
 intro v now snaps s ds rs v2 r6 YK s2 t
 induction t with
 |nil h=>
  intro pre acc f u B z;obtain⟨f,rfl⟩:∃g,f=g+1:=⟨f - 1,by simp at z;omega⟩;have:pre=l:=by simpa using u.symm
  rw[this,Go.WX.l8 (he _ _),Y6]
 |cons h F C G g t D=>
  rename_i d ds rs pP YU;intro pre acc f u B z;simp only[E3] at z;obtain⟨f,rfl⟩:∃g,f=g+1:=⟨f - 1,by omega⟩;have E:l.length=pre.length+ds.length+1:=by rw[u];simp;omega
  rw[Go.WX.q9 (hs pre.length d _ _ acc _ (by rw[u];simp) (by omega) (by omega) C)];have A:=fun r:Bz=>D (pre++[d]) (acc++[r]) f (by rw[u];simp) (by simp[B]) (by omega);simp only[sM,aCw,C0,aD3] at A ⊢;exact A _
end Go.XE
namespace Go.XE
open Go Go.Sw Go.Mo Go.Pl
theorem QG{n:Nat}(h0:1<=n)(h1:n<=32){ds:List lM}(hl:ds.length<=300){s0:PS}(YF:iK (n:Int)=some (some (WN s0),none)){v now snaps rs v2 r6 YK s2}(t:ee v now snaps s0 ds rs v2 r6 YK s2):
  gN (n:Int) ds=some (some (WN s2),rs,none):=by
 have A:cm .lss (n:Int) (1:Int)=false:=by rw[cl];exact ZQ (by omega)
 have B:cm .gtr (n:Int) (32:Int)=false:=by rw[cg];exact ZQ (by omega)
 have C:cm .gtr (ds.length:Int) (300:Int)=false:=by rw[cg];exact ZQ (by omega)
 unfold gN;rw[A,B,C];simp only[pF,cM];rw[YF,cM];simp only[vV,j1,pF];unfold lp
 rw[show (((0:Int),(WN s0).1,(WN s0).2.1,(WN s0).2.2.1,(WN s0).2.2.2.1,(WN s0).2.2.2.2.2.1,(WN s0).2.2.2.2.2.2.2.1,(WN s0).2.2.2.2.2.2.2.2.1,(WN s0).2.2.2.2.2.2.2.2.2.1,(WN s0).2.2.2.2.2.2.2.2.2.2.1,(WN s0).2.2.2.2.2.2.2.2.2.2.2.2.1,(WN s0).2.2.2.2.2.2.2.2.2.2.2.2.2.1,(WN s0).2.2.2.2.2.2.2.2.2.2.2.2.2.2.1,(WN s0).2.2.2.2.2.2.2.2.2.2.2.2.2.2.2.1,(WN s0).2.2.2.2.2.2.2.2.2.2.2.2.2.2.2.2.1,([]:(List (Int×aQ×Int×Int×Int×(List aQ)))),(WN s0).2.2.2.2.2.2.2.2.2.2.2.2.2.2.2.2.2.2.1,(WN s0).2.2.2.2.2.2.2.2.2.2.2.2.2.2.2.2.2.2.2.1,(WN s0).2.2.2.2.1,(WN s0).2.2.2.2.2.2.1,(WN s0).2.2.2.2.2.2.2.2.2.2.2.1,(WN s0).2.2.2.2.2.2.2.2.2.2.2.2.2.2.2.2.2.2.2.2.1,(WN s0).2.2.2.2.2.2.2.2.2.2.2.2.2.2.2.2.2.2.2.2.2,(WN s0).2.2.2.2.2.2.2.2.2.2.2.2.2.2.2.2.2.1))=OT ((([]:List lM).length:Nat):Int) s0 [] from rfl,
  JP (l:=ds) (fin:=fun s rs=>Ex.WM (OT 0 s rs).2) ?_ ?_ (by omega) t [] [] fJ rfl rfl (by unfold fJ;omega)]
 ·rfl
 ·intro i d s H acc r u I K h;unfold mZ at h;have G:i<ds.length:=(aCb.1 u).1;have D:cm .lss (i:Int) (ds.length:Int)=true:=by rw[cl];exact A7 (by omega)
  simp only[OT];rw[D,XP,qO u,cM];cases hz:hX d s.n s.fn s.YC s.XC s.blocks s.VW s.WO s.VK s.VM s.sent s.safe s.VS s.on s.YB s.WH s.first s.receiver s.WK s.r8 s.fd s.o6 s.od with
  |none=>rw[hz] at h;cases h
  |some z=>
   rw[hz] at h;simp only[cM,B9,bm] at h;obtain⟨rfl,F,rfl⟩:=h;rw[cM];simp only[F,j1,pF];rw[VN _ _ (by simp;omega),cM,r5 (by omega)]
 ·intro s acc;have E:cm .lss (ds.length:Int) (ds.length:Int)=false:=by rw[cl];exact ZQ (by omega)
  simp only[OT];rw[E,pF]
theorem Yy{n:Nat}(h1:n<=32):kO (n:Int)=some (some (List.replicate n aS,[List.replicate n aS])):=by
 have h:Sw.mk (n:Int) aS=some (List.replicate n aS):=by
  unfold Sw.mk;rw[WU (by omega)];simp
 unfold kO;rw[h,cM,cM,VN _ _ (by simp)];rfl
end Go.XE
namespace Go.XE
open Go Go.Sw Go.Mo Go.Pl
theorem NP{a0:Int}{ds:List lM}(h:a0<1\/32<a0):iO a0 ds=some ([],some 1):=by
 have z:(bif (cm .lss a0 (1:Int)) then some true else some (cm .gtr a0 (32:Int)))=some true:=by
  rw[cl,cg];by_cases u:a0<1
  ·rw[A7 u];rfl
  ·rw[ZQ u,A7 (by omega)];rfl
 unfold iO gN;rw[z];rfl
theorem JR{n:Nat}(h0:1<=n)(h1:n<=32){ds:List lM}(hl:300<ds.length):iO (n:Int) ds=some ([],some 2):=by
 have h:cm .lss (n:Int) (1:Int)=false:=by rw[cl];exact ZQ (by omega)
 have u:cm .gtr (n:Int) (32:Int)=false:=by rw[cg];exact ZQ (by omega)
 have z:cm .gtr (ds.length:Int) (300:Int)=true:=by rw[cg];exact A7 (by omega)
 unfold iO gN;rw[h,u,z];rfl
theorem QH{n:Nat}(h0:1<=n)(h1:n<=32){ds:List lM}(hl:ds.length<=300){s0:PS}(YF:iK (n:Int)=some (some (WN s0),none)){v now snaps rs v2 r6 YK s2}(t:ee v now snaps s0 ds rs v2 r6 YK s2):
  gN (n:Int) ds=some (some (WN s2),rs,none)/\iO (n:Int) ds=some (rs,none):=by
 have h:=QG h0 h1 hl YF t;refine⟨h,?_⟩;unfold iO;rw[h];rfl
end Go.XE
namespace Go.XE
open Go Go.Sw Go.Mo Go.Pl
theorem JS{δ:Type}{step:Int×Int×List aQ×List (List aQ)->Option (Step (Int×Int×List aQ×List (List aQ)) δ)}{l:List lM}{L:List Bz}{fin:δ}
  (hs:∀(i:Nat) (d:lM) (v v':Nm) (now I6:List aQ) (snaps YD:List (List aQ)) (s':PS) (back pP:Int) (YU:aQ),l[i]? =some d->L[i]? =some (pP,YU,(v'.h:Int),s'.safe,(v'.k:Int),YD.getD v'.k [])->i<=1000->
   iP now snaps d=some (pP,YU,I6,YD)->Inv v' I6 YD s'->zw v v'->back<=v.k->step (back,(i:Int),now,snaps)=some (.next ((v'.k:Int),((i+1:Nat):Int),I6,YD)))
  (he:∀back now snaps,step (back,(L.length:Int),now,snaps)=some (.done fin)) (hl:l.length<=1000):
  ∀{v now snaps s ds rs v2 r6 YK s2},ee v now snaps s ds rs v2 r6 YK s2->∀(pre:List lM) (ng:List Bz) (back:Int) (f:Nat),l=pre++ds->L=ng++rs->ng.length=pre.length->back<=v.k->ds.length<f->
   loop step f (back,(pre.length:Int),now,snaps)=some fin:=by
 intro v now snaps s ds rs v2 r6 YK s2 t
 induction t with
 |nil h=>
  intro pre ng back f u z A D B;obtain⟨f,rfl⟩:∃g,f=g+1:=⟨f - 1,by simp at B;omega⟩;have:ng=L:=by simpa using z.symm
  rw[<-A,this,Go.WX.l8 (he _ _ _)]
 |cons h E I F g t G=>
  rename_i d ds rs pP YU;intro pre ng back f u z A D B;simp only[E3] at B;obtain⟨f,rfl⟩:∃g,f=g+1:=⟨f - 1,by omega⟩;have H:l.length=pre.length+ds.length+1:=by rw[u];simp;omega
  rw[Go.WX.q9 (hs pre.length d _ _ _ _ _ _ _ back pP YU (by rw[u];simp) (by rw[z,<-A];simp) (by omega) E F g D)];have C:=fun r:Bz=>fun e=>G (pre++[d]) (ng++[r]) _ f (by rw[u];simp) e (by simp[A]) (zf _) (by omega);simp only[sM,aCw,C0,aD3] at C ⊢;exact C _ z
theorem Pb(a0:Int)(ds:List lM)(hd:∀d∈ds,wH d):iA a0 ds=some true:=by
 by_cases O:a0<1\/32<a0
 ·have P:(bif (cm .lss a0 (1:Int)) then some true else some (cm .gtr a0 (32:Int)))=some true:=by
   rw[cl,cg];by_cases F:a0<1
   ·rw[A7 F];rfl
   ·rw[ZQ F,A7 (by omega)];rfl
  unfold iA;rw[NP O,cM,P];rfl
 ·obtain⟨n,rfl⟩:∃n:Nat,a0=(n:Int):=⟨a0.toNat,by omega⟩;have C:1<=n:=by omega
  have B:n<=32:=by omega
  have G:cm .lss (n:Int) (1:Int)=false:=by rw[cl];exact ZQ (by omega)
  have H:cm .gtr (n:Int) (32:Int)=false:=by rw[cg];exact ZQ (by omega)
  by_cases Q:300<ds.length
  ·have D:cm .gtr (ds.length:Int) (300:Int)=true:=by rw[cg];exact A7 (by omega)
   unfold iA;rw[JR C B Q,cM,G,H,D];rfl
  ·have D:cm .gtr (ds.length:Int) (300:Int)=false:=by rw[cg];exact ZQ (by omega)
   obtain⟨s0,A,v2,r6,YK,s2,a1,a2,N,a4,a5⟩:=Yx C B (by omega:ds.length<=300) hd;have R:=(QH C B (by omega) a1 N).2;have S:cm .neq (A.length:Int) (ds.length:Int)=false:=by rw[cn,a4];simp
   have T:cm .neq (0:Int) (0:Int)=false:=rfl;unfold iA;rw[R,cM,G,H,D];simp only[pF,cM,jp,T,j1,S];rw[Yy B,cM];simp only[vV];unfold lp
   rw[show (((0:Int),(0:Int),List.replicate n aS,[List.replicate n aS]):Int×Int×List aQ×List (List aQ))=(0,((([]:List lM).length:Nat):Int),List.replicate n aS,[List.replicate n aS]) from rfl,
    JS (l:=ds) (L:=A) (fin:=Ex.WM ()) ?_ ?_ (by omega) N [] [] 0 fJ rfl rfl rfl (by omega) (by unfold fJ;omega)]
   ·intro i d v u aa I6 ab YD I K pP YU hi M ad hc z g hb;have XJ:i<A.length:=(aCb.1 M).1;have E:cm .lss (i:Int) (A.length:Int)=true:=by rw[cl];exact A7 (by omega)
    have ZM:=z.hs;have qe:=z.kh;have ga:=z.safe;have m5:=z.D4;have ac:=g.k;have P2:=z.n1;have U:gB (I6,YD)=some (u.h:Int):=by
     unfold gB;rw[M8 (by simp only;omega)];simp only;congr 1;omega
    have V:∀x:Int,cm .neq x x=false:=fun x=>by rw[cn];simp
    have X:cm .lss (u.k:Int) K=false:=by rw[cl];exact ZQ (by omega)
    have e5:cm .gtr (u.k:Int) (u.h:Int)=false:=by rw[cg];exact ZQ (by omega)
    have e6:cm .lss I.safe (0:Int)=false:=by rw[cl];exact ZQ (by omega)
    have e7:cm .gtr I.safe (u.k:Int)=false:=by rw[cg];exact ZQ (by omega)
    have e8:Sw.idx YD (u.k:Int)=some (YD.getD u.k []):=qO (by rw[P6,E4 (by omega)];rfl);have YJ:YD.getD u.k []∈YD:=by
     rw[P6,E4 (by omega)];exact fh _
    have e9:=Go.YS.P9 (YD.getD u.k []) (by have:=z.ep.len _ YJ;omega);simp only[E,XP,qO hi,qO M,cM,hc,U,V,X,e5,e6,e7,e8,e9,pF,cj,kt];rw[r5 (by omega)]
   ·intro K aa ab;have E:cm .lss (A.length:Int) (A.length:Int)=false:=by rw[cl];exact ZQ (by omega)
    simp only[E,pF]
end Go.XE
namespace Go.XE
open Go Go.Sw Go.Mo Go.Pl
open Go.WX (Good bP fA dL dU qP qG kG wY)
variable {v:Nm}{now:List aQ}{snaps:List (List aQ)}{s:PS}
end Go.XE
namespace Go.XE
open Go Go.Sw Go.Mo Go.Pl
variable {v:Nm}{now:List aQ}{snaps:List (List aQ)}{s:PS}
end Go.XE
namespace Go.XE
open Go Go.Sw Go.Mo Go.Pl
end Go.XE
namespace Go.XE
open Go Go.Sw Go.Mo Go.Pl
def SP(i:Nat)(x:Option (Step (Int×List lM) (Ex (List lM) (List lM)))):Prop:=∃l':List lM,x=some (.next (((i+1:Nat):Int),l'))/\l'.length=i+1/\∀d∈l',wH d
theorem QI{i:Nat}{c:Bool}{a b:Option (Step (Int×List lM) (Ex (List lM) (List lM)))}(ha:SP i a)(hb:SP i b):SP i (bif c then a else b):=by cases c<;>assumption
theorem SP.jp{i:Nat}{β:Type}{k:β->Option (Step (Int×List lM) (Ex (List lM) (List lM)))}{body:(β->Option (Step (Int×List lM) (Ex (List lM) (List lM))))->Option (Step (Int×List lM) (Ex (List lM) (List lM)))}(hk:∀x,SP i (k x))(h:∀k',(∀x,SP i (k' x))->SP i (body k')):SP i (Sw.jp k body):=h k hk
theorem NQ{i:Nat}{l:List lM}{d:lM}(hi:i<=1000)(hl:l.length=i)(h:∀d∈l,wH d)(hd:wH d):SP i ((Sw.app l [d]).bind fun v=>some (.next ((ar .add .i64 (i:Int) 1),v))):=by
 rw[VN _ _ (by simp[hl];omega),cM,r5 (by omega)]
 exact⟨_,rfl,by simp[hl],fun x u=>by
  rcases M4.1 u with u | u
  ·exact h x u
  ·rw[zp.1 u];exact hd⟩
theorem SP.block{i:Nat}{raw:List Int}(hr:HK raw){p:Nat}(hp:p<=100000){k:aQ->Option (Step (Int×List lM) (Ex (List lM) (List lM)))}(hk:∀b,ZF b->SP i (k b)):SP i ((kN raw (p:Int)).bind k):=by
 obtain⟨b,h,u⟩:=Sg hr p hp;rw[h,cM];exact hk b u
theorem Td{v:Nat}(h:v<=100000000000):E6 (v:Int):=by unfold E6;omega
theorem EM{many:Nat}(hm:many<=300){step:Int×List lM->Option (Step (Int×List lM) (Ex (List lM) (List lM)))}
  (hs:∀i l,i<many->l.length=i->(∀d∈l,wH d)->SP i (step ((i:Int),l))) (he:∀l,step ((many:Int),l)=some (.done (.WM l))):
  ∃ds,lp step ((0:Int),([]:List lM)) (fun x=>some x)=some ds/\ds.length=many/\∀d∈ds,wH d:=by
 obtain⟨b,⟨z,A⟩,B⟩:=OP (γ:=List lM) (step:=step) (k:=fun x=>some x) (fun i (l:List lM)=>((i:Int),l)) (fun l=>l) many (fun i l=>l.length=i/\∀d∈l,wH d) [] (by unfold fJ;omega) ⟨rfl,by simp⟩
  (fun i l u h=>hs i l u h.1 h.2) (fun l _=>he l)
 exact⟨b,B,z,A⟩
theorem SV{k a b:Int}{x:aQ}(h1:E6 a)(h2:E6 b)(h3:ZF x):wH (k,a,b,x):=⟨h1,h2,h3⟩
theorem Pc{raw:List Int}(hr:HK raw)(at_ many n:Nat)(ha:at_<=1000)(hm:many<=300)(hn:1<=n)(qd:n<=1000):∃ds,lJ raw (at_:Int) (many:Int) (n:Int)=some ds/\ds.length=many/\∀d∈ds,wH d:=by
 unfold lJ;refine EM hm (fun i l U K L=>?_) (fun l=>?_)
 ·rw[cl,A7 (by omega),XP,ZV (by omega),show (at_:Int)+(i:Int)=((at_+i:Nat):Int) by omega];obtain⟨v,P,V⟩:=Xw hr (at_+i) (by omega);rw[P,cM,HI (by omega),cM];have B:ar .quo .i64 (v:Int) 40=((v / 40:Nat):Int):=HH (b:=40) (by omega);have C:ar .quo .i64 (v:Int) 7=((v / 7:Nat):Int):=HH (b:=7) (by omega);have D:ar .rem .i64 ((v / 40:Nat):Int) (n:Int)=((v / 40 % n:Nat):Int):=AP;have E:ar .rem .i64 ((v / 7:Nat):Int) 90=((v / 7 % 90:Nat):Int):=AP (b:=90);have F:ar .rem .i64 ((v / 40:Nat):Int) 7=((v / 40 % 7:Nat):Int):=AP (b:=7);have Q:v / 40 % n<=1000:=by have:=mr (v / 40) (show n>0 by omega);omega
  have R:v / 7 % 90<=1000:=by omega
  have S:v / 40 % 7<=1000:=by omega
  rw[B,C,D,E,F];have u:E6 ((v / 40 % n:Nat):Int):=Td (by omega);have G:E6 ((v / 7 % 90:Nat):Int):=Td (by omega);have z:E6 ((v / 40 % 7:Nat):Int):=Td (by omega);have T:ar .add .i64 ((at_+i:Nat):Int) 0=((at_+i:Nat):Int):=by rw[ZV (by omega)];omega
  have H:ar .add .i64 (at_:Int) (ar .mul .i64 3 (i:Int))=((at_+3*i:Nat):Int):=by
   rw[show ar .mul .i64 3 (i:Int)=((3*i:Nat):Int) from Ho (a:=3) (by omega),ZV (by omega)];omega
  have I:ar .add .i64 (at_:Int) (ar .mul .i64 2 (i:Int))=((at_+2*i:Nat):Int):=by
   rw[show ar .mul .i64 2 (i:Int)=((2*i:Nat):Int) from Ho (a:=2) (by omega),ZV (by omega)];omega
  rw[H,I];have h:∀(k a:Int) (b:aQ),E6 a->ZF b->SP i ((Sw.app l [(k,a,((v / 7 % 90:Nat):Int),b)]).bind fun v=>some (.next ((ar .add .i64 (i:Int) 1),v))):=fun k a b M N=>NQ (by omega) K L (SV M G N)
  repeat' (first
   | (with_reducible exact h _ _ _ u C4)
   | (with_reducible exact h _ _ _ z C4)
   | (with_reducible exact h _ _ _ u A)
   | (with_reducible exact h _ _ _ z A)
   | (with_reducible exact O _)
   | (with_reducible refine SP.block hr (by omega) fun b A=>?_)
   | (with_reducible refine SP.jp (fun x=>?_) (fun k O=>?_))
   | (with_reducible refine QI ?_ ?_))
 ·rw[cl,ZQ (by omega)];rfl
end Go.XE
namespace Go.XE
open Go Go.Sw Go.Mo Go.Pl
theorem Wo{raw:List Int}(hr:HK raw){a1 a2 a3:Int}(h1:Go.Pl.E6 a1)(h2:Go.Pl.E6 a2)(h3:Go.Pl.E6 a3)(M:Nat)(hM0:0<M)(hM:M<=300):
  ∃(n:Nat) (p1 p2 p3:Int) (ds:List lM),1<=n/\n<=32/\lR a1 32=some p1/\ar .add .i64 (1:Int) p1=(n:Int)/\lR a2 1000=some p2/\lR a3 (M:Int)=some p3/\
   lJ raw p2 p3 (n:Int)=some ds/\ds.length<=300/\∀d∈ds,wH d:=by
 have G:=Lj (c:=a1) (n:=32) (by omega);have H:=Lj (c:=a2) (n:=1000) (by omega);have I:=Lj (c:=a3) (n:=(M:Int)) (by omega);obtain⟨h,B⟩:∃k:Nat,pick a1 32=k:=⟨(pick a1 32).toNat,by omega⟩;obtain⟨u,C⟩:∃k:Nat,pick a2 1000=k:=⟨(pick a2 1000).toNat,by omega⟩;obtain⟨z,D⟩:∃k:Nat,pick a3 (M:Int)=k:=⟨(pick a3 (M:Int)).toNat,by omega⟩;have A:ar .add .i64 (1:Int) (h:Int)=((h+1:Nat):Int):=by rw[ZV (by omega)];omega
 obtain⟨ds,E,K,F⟩:=Pc hr u z (h+1) (by omega) (by omega) (by omega) (by omega);exact⟨h+1,h,u,z,ds,by omega,by omega,by rw[Li h1 (by omega),B],A,by rw[Li h2 (by omega),C],by rw[Li h3 (by omega),D],E,by omega,F⟩
end Go.XE
namespace Go.XE
open Go Go.Sw Go.Mo Go.Pl
theorem bo{a0:List Int}{a1 a2 a3:Int}(hw:∀x∈a0,Go.Pl.E6 x)(h1:Go.Pl.E6 a1)(h2:Go.Pl.E6 a2)(h3:Go.Pl.E6 a3):nW a0 a1 a2 a3=some true:=by
 unfold nW;by_cases h:(256:Int)<(a0.length:Int)
 ·have e:cm .gtr (a0.length:Int) (256:Int)=true:=by rw[cg];exact A7 h
  rw[e];rfl
 ·have e:cm .gtr (a0.length:Int) (256:Int)=false:=by rw[cg];exact ZQ h
  obtain⟨n,p1,E,F,G,H,I,u,z,A,B,C,K,D⟩:=Wo (raw:=a0) ⟨hw,by omega⟩ h1 h2 h3 120 (by omega) (by omega);rw[e,pF,u,cM,A,cM,show (120:Int)=((120:Nat):Int) from rfl,B,cM,z,C,cM,Pb _ _ D];rfl
end Go.XE
