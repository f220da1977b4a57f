/- Plain laws about these plain functions alone. Conditions: none. -/
import Derived.Test.YteckohdbfkhmdacGreatDoorMCSettleMade
set_option linter.unusedVariables false
set_option linter.unusedSimpArgs false
namespace Go.YA
open Go.Pl
open Go Go.Sw Go.Mo
abbrev fM:=Int×List Int×List aR
def wY(x:Int):Bool:=decide (x<0) || decide (x>2147483647)
def eB(f:fM):Int:=if f.1<0\/f.1>15 then 1 else if f.2.1.length>12\/f.2.2.length>32 then 2 else if f.2.1.any wY then 1 else 0
theorem Wd{D:Type}(r:Nat->D)(l:List Int):∀i,tC (fun (i:Nat) (x:Int) (_:Unit)=>(if wY x then Step.done (Ex.ret (r i)) else .next ():Step Unit (Ex Unit D))) (fun _=> .XT ()) i () l=match l.findIdx? wY with | some j=> .ret (r (i+j)) | none=> .XT ():=by
 induction l with
 |nil=>intro i;simp[tC]
 |cons x l u=>
  intro i;simp only[tC,List.findIdx?_cons];by_cases h:wY x=true
  ·simp[h]
  ·simp only[h,r5,u,V6];cases l.findIdx? wY with
   |none=>rfl
   |some j=>simp[aDu,aDg 1]
theorem We(l:List Int):l.any wY=(l.findIdx? wY).isSome:=by
 rw[List.findIdx?_isSome]
theorem EV(x:Int):qA x=some (wY x):=by
 unfold qA wY;by_cases h:x<0
 ·have:cm .lss x 0=true:=by simp[cm,h]
  simp[this,h]
 ·have:cm .lss x 0=false:=by simp[cm];omega
  simp[this,h,cm]
theorem Wg(l:List Int)(h:l.length<=1000000):dB l=some (l.any wY):=by
 unfold dB eI;rw[show (0:Int)=((0:Nat):Int) from rfl,Bs (l:=l) (fun i (_:Unit)=>(i:Int)) () (fun i x _=>if wY x then .done (.ret (i:Int)) else .next ()) (fun _=> .XT ()) (by unfold fL;omega)]
 ·rw[Wd (fun i=>(i:Int)),We];cases l.findIdx? wY<;>simp[out,cm]
 ·rintro u x z acc rfl;simp only[pU,YX,nD,cM,EV,IP (n:=u.length) (m:=1000000) (by simp at h;omega) (by omega)];cases wY x<;>simp[Jh]
 ·intro _;simp[dV]
theorem Gd(f:fM):qJ f=some (if eB f=0 then none else some (eB f)):=by
 obtain⟨s,h,u⟩:=f;unfold qJ eB;by_cases z:s<0
 ·have:cm .lss s 0=true:=by simp[cm,z]
  simp[this,z]
 have A:cm .lss s 0=false:=by simp[cm];omega
 by_cases C:s>15
 ·have:cm .gtr s 15=true:=by simp[cm];omega
  simp[A,this,C]
 have D:cm .gtr s 15=false:=by simp[cm];omega
 have E:¬(s<0\/s>15):=by omega
 simp only[A,D,pF,cM,E,r5];by_cases F:h.length>12
 ·have:cm .gtr (h.length:Int) 12=true:=by simp[cm];omega
  simp[this,F]
 have B:cm .gtr (h.length:Int) 12=false:=by simp[cm];omega
 by_cases G:u.length>32
 ·have:cm .gtr (u.length:Int) 32=true:=by simp[cm];omega
  simp[B,this,G]
 have H:cm .gtr (u.length:Int) 32=false:=by simp[cm];omega
 have I:¬(h.length>12\/u.length>32):=by omega
 simp only[B,H,pF,cM,I,r5,Wg h (by omega)];cases h.any wY<;>simp
def vf:Nat->Nat->List Int
 | 0,n=>[(n:Int)]
 |k+1,n=>if n<128 then [(n:Int)] else ((128+n % 128:Nat):Int)::vf k (n / 128)
theorem Oe:∀k n,n<128 ^ (k+1)->Bytes (vf k n)/\(vf k n).length<=k+1
 | 0,n,h=>by
  simp at h;exact⟨fun x u=>by simp[vf] at u;omega,by simp[vf]⟩
 |k+1,n,h=>by
  unfold vf;split
  ·exact⟨fun x u=>by simp at u;omega,by simp⟩
  ·have z:n / 128<128 ^ (k+1):=(by rw[aEh] at h;omega);obtain⟨A,B⟩:=Oe k (n / 128) z;refine⟨fun x u=>?_,by simp;omega⟩;rcases B1.1 u with rfl | u
   ·have:=pz n (by decide:0<128);omega
   ·exact A x u
theorem Rp{γ:Type}{step:Int×List Int->Option (Step (Int×List Int) (Ex (Int×List Int) γ))}
  (h1:∀(n:Nat) acc,128<=n->n<34359738368->acc.length<=1000000->step ((n:Int),acc)=some (.next (((n / 128:Nat):Int),acc++[((128+n % 128:Nat):Int)])))
  (h2:∀(n:Nat) acc,n<128->step ((n:Int),acc)=some (.done (.XT ((n:Int),acc)))):
  ∀(k n:Nat) (acc:List Int) (f:Nat),n<128 ^ (k+1)->n<34359738368->acc.length+k<=1000000->k<f->∃(m:Nat) (ZB:List Int),loop step f ((n:Int),acc)=some (.XT ((m:Int),ZB))/\m<128/\ZB++[(m:Int)]=acc++vf k n
 | 0,n,acc,f,h,_,_,C=>by
  obtain⟨f,rfl⟩:∃f',f=f'+1:=⟨f - 1,by omega⟩;simp at h;exact⟨n,acc,by simp[loop,h2 n acc h],h,rfl⟩
 |k+1,n,acc,f,h,D,E,C=>by
  obtain⟨f,rfl⟩:∃f',f=f'+1:=⟨f - 1,by omega⟩;by_cases u:n<128
  ·exact⟨n,acc,by simp[loop,h2 n acc u],u,by simp[vf,u]⟩
  ·obtain⟨m,ZB,z,A,B⟩:=Rp h1 h2 k (n / 128) (acc++[((128+n % 128:Nat):Int)]) f (by rw[aEh] at h;omega) (by omega) (by simp;omega) (by omega);refine⟨m,ZB,?_,A,?_⟩
   ·simp only[loop,h1 n acc (by omega) D (by omega)];exact z
   ·rw[B];simp[vf,u]
theorem VI:∀a:Fin 256,ar .or .u8 ((a.1:Nat):Int) 128=((128+a.1 % 128:Nat):Int):=by decide+kernel
theorem Du(n:Nat):IntKind.wrap .u8 (n:Int)=((n % 256:Nat):Int):=by
 simp[IntKind.wrap,IntKind.signed,IntKind.bits]
theorem VJ(n:Nat):sh .shr .i64 (n:Int) 7=((n / 128:Nat):Int):=by
 show Int.fdiv _ _=_;have:(2:Int) ^ min (7:Int).toNat (IntKind.bits .i64)=128:=by decide
 rw[this,ye _ (by omega)];omega
theorem JX:∀s:Fin 16,∀n:Fin 13,ar .or .u8 (sh .shl .u8 (IntKind.wrap .u8 (s.1:Int)) 4) (IntKind.wrap .u8 (n.1:Int))=IntKind.wrap .u8 (ar .add .i64 (ar .mul .i64 16 (s.1:Int)) (n.1:Int)):=by decide+kernel
def Im(f:fM):List Int:=[IntKind.wrap .u8 (ar .add .i64 (ar .mul .i64 16 f.1) (f.2.1.length:Int)),IntKind.wrap .u8 (f.2.2.length:Int)]
def vs(ns:List Int):List Int:=ns.flatMap fun n=>vf 4 n.toNat
def body(f:fM):List Int:=Im f++vs f.2.1++f.2.2.flatten
def D8(v:Nat):List Int:=[((v / 16777216:Nat):Int),((v / 65536 % 256:Nat):Int),((v / 256 % 256:Nat):Int),((v % 256:Nat):Int)]
def bM(f:fM):List Int:=body f++D8 (4294967295 - Ak (nat (body f)))
theorem I0{α A B β γ:Type}{step:α->Option (Step α (Ex β γ))}{l:List A}{k:β->Option γ}(st:Nat->B->α)(I:Nat->B->Prop)(j2:B)(g:Nat->A->B->B)(fin:B->β)(hf:l.length<fL)(h0:I 0 j2)
  (hs:∀pre x rest acc,l=pre++x::rest->I pre.length acc->step (st pre.length acc)=some (.next (st (pre.length+1) (g pre.length x acc)))/\I (pre.length+1) (g pre.length x acc))
  (he:∀acc,I l.length acc->step (st l.length acc)=some (.done (.XT (fin acc)))):
  lp step (st 0 j2) k=k (fin ((l.zipIdx).foldl (fun acc x=>g x.2 x.1 acc) j2)):=by
 have C:∀(rest pre:List A) (acc:B) (f:Nat),l=pre++rest->I pre.length acc->rest.length<f->loop step f (st pre.length acc)=some (.XT (fin ((rest.zipIdx pre.length).foldl (fun acc x=>g x.2 x.1 acc) acc))):=by
  intro rest
  induction rest with
  |nil=>
   intro pre acc f u z hf;obtain⟨f,rfl⟩:∃f',f=f'+1:=⟨f - 1,by simp at hf;omega⟩;have:=he acc (by rw[u,cw];exact z);rw[u,cw] at this;simp[loop,this]
  |cons x rest F=>
   intro pre acc f u z hf;obtain⟨f,rfl⟩:∃f',f=f'+1:=⟨f - 1,by simp at hf;omega⟩;obtain⟨D,E⟩:=hs pre x rest acc u z;simp only[loop,D];have:=F (pre++[x]) (g pre.length x acc) f (by rw[u];simp) (by simpa using E) (by simp at hf;omega);simpa using this
 have h:=C l [] j2 fL rfl h0 hf;unfold lp;simp only[ak] at h;rw[h]
theorem m8{A:Type}(w:A->List Int):∀(l:List A) (i:Nat) (acc:List Int),(l.zipIdx i).foldl (fun acc x=>acc++w x.1) acc=acc++l.flatMap w
 | [],_,acc=>by simp
 |x::l,i,acc=>by simp[m8 w l]
theorem WV{α:Type}(xs ys:List α)(h:xs.length+ys.length<=4294967296):Sw.app xs ys=some (xs++ys):=by unfold Sw.app;rw[YC h]
theorem OD{γ:Type}{step:Int×List Int->Option (Step (Int×List Int) (Ex (Int×List Int) γ))}{k:Int×List Int->Option γ}
  (h1:∀(n:Nat) acc,128<=n->n<34359738368->acc.length<=1000000->step ((n:Int),acc)=some (.next (((n / 128:Nat):Int),acc++[((128+n % 128:Nat):Int)])))
  (h2:∀(n:Nat) acc,n<128->step ((n:Int),acc)=some (.done (.XT ((n:Int),acc)))) (n:Nat) (acc:List Int) (hn:n<34359738368) (ha:acc.length<=900000):
  ∃(m:Nat) (ZB:List Int),lp step ((n:Int),acc) k=k ((m:Int),ZB)/\m<128/\ZB++[(m:Int)]=acc++vf 4 n:=by
 obtain⟨m,ZB,h,u,z⟩:=Rp h1 h2 4 n acc fL (by omega) hn (by omega) (by unfold fL;omega);exact⟨m,ZB,by unfold lp;rw[h],u,z⟩
structure Good (f:fM):Prop where
 s0:0<=f.1
 s1:f.1<=15
 ns:f.2.1.length<=12
 bs:f.2.2.length<=32
 num:∀n∈f.2.1,0<=n/\n<=2147483647
 j1:∀b∈f.2.2,b.length=8/\Bytes b
theorem qT{f:fM}(h:eB f=0)(hb:∀b∈f.2.2,b.length=8/\Bytes b):Good f:=by
 unfold eB at h;split at h
 ·cases h
 ·split at h
  ·cases h
  ·split at h
   ·cases h
   ·rename_i B C u;refine⟨by omega,by omega,by omega,by omega,fun n z=>?_,hb⟩;have:¬wY n=true:=fun A=>u (aDe.2 ⟨n,z,A⟩);simp[wY] at this;omega
theorem Wh{ns:List Int}(h:∀n∈ns,0<=n/\n<=2147483647):Bytes (vs ns)/\(vs ns).length<=5*ns.length:=by
 induction ns with
 |nil=>exact⟨fun x u=>by simp[vs] at u,by simp[vs]⟩
 |cons n ns C=>
  obtain⟨z,A⟩:=C (fun x u=>h x (by simp[u]));have D:=h n (by simp);obtain⟨B,E⟩:=Oe 4 n.toNat (by omega);refine⟨fun x u=>?_,?_⟩
  ·simp only[vs,aEr,S9] at u;rcases u with u | u
   ·exact B x u
   ·exact z x u
  ·simp only[vs,aEr,sM,H6];unfold vs at A;omega
theorem C6{bs:List aR}(h:∀b∈bs,b.length=8/\Bytes b):Bytes bs.flatten/\bs.flatten.length=8*bs.length:=by
 induction bs with
 |nil=>exact⟨fun x u=>by simp at u,rfl⟩
 |cons b bs D=>
  obtain⟨z,A⟩:=D (fun x u=>h x (by simp[u]));obtain⟨B,C⟩:=h b (by simp);refine⟨fun x u=>?_,by simp only[aC2,sM,A,B,H6];omega⟩;simp only[aC2,S9] at u;rcases u with u | u
  ·exact C x u
  ·exact z x u
theorem rJ{f:fM}(h:Good f):Bytes (body f)/\(body f).length<=1000:=by
 obtain⟨z,B⟩:=Wh h.num;obtain⟨A,C⟩:=C6 h.j1;have:=h.ns;have:=h.bs;refine⟨fun x u=>?_,by simp only[body,Im,sM,H6,ak];omega⟩;simp only[body,S9] at u;rcases u with (u | u) | u
 ·simp only[Im,B1,aCm,aEl] at u;rcases u with rfl | rfl
  ·have:=yV .u8 (ar .add .i64 (ar .mul .i64 16 f.1) (f.2.1.length:Int));unfold Dh at this;simpa[IntKind.min,IntKind.max,IntKind.signed,IntKind.bits] using this
  ·have:=yV .u8 (f.2.2.length:Int);unfold Dh at this;simpa[IntKind.min,IntKind.max,IntKind.signed,IntKind.bits] using this
 ·exact z x u
 ·exact A x u
theorem Fk{f:fM}(h:Good f)(he:eB f=0):nA f=some (bM f,none):=by
 obtain⟨s,u,A⟩:=f;have M:=h.s0;have N:=h.s1;have D:=h.ns;have E:=h.bs;have F:=h.num;have G:=h.j1;simp only at D E F G M N;obtain⟨ae,af⟩:=Wh F;obtain⟨ah,ai⟩:=C6 G;obtain⟨K,Y4⟩:=rJ h;unfold nA;rw[Gd,YC he];simp only[cM,p7,pF];have O:ar .or .u8 (sh .shl .u8 (IntKind.wrap .u8 s) 4) (IntKind.wrap .u8 (u.length:Int))=IntKind.wrap .u8 (ar .add .i64 (ar .mul .i64 16 s) (u.length:Int)):=by
  have:=JX ⟨s.toNat,by omega⟩ ⟨u.length,by omega⟩;have e:((s.toNat:Nat):Int)=s:=by omega
  simpa[e] using this
 rw[O,show ((0:Int),[IntKind.wrap .u8 (ar .add .i64 (ar .mul .i64 16 s) (u.length:Int)),IntKind.wrap .u8 (A.length:Int)])=(((0:Nat):Int),Im (s,u,A)) from rfl];rw[I0 (l:=u) (fun i (acc:List Int)=>((i:Int),acc)) (fun i acc=>acc.length<=2+5*i) (Im (s,u,A)) (fun _ n acc=>acc++vf 4 n.toNat) (fun acc=>acc) (by unfold fL;omega) (by simp[Im])]
 ·rw[m8 (fun n:Int=>vf 4 n.toNat)];rw[show ((0:Int),Im (s,u,A)++u.flatMap (fun n=>vf 4 n.toNat))=(((0:Nat):Int),Im (s,u,A)++vs u) from rfl];rw[I0 (l:=A) (fun i (acc:List Int)=>((i:Int),acc)) (fun i acc=>acc.length<=100+8*i) (Im (s,u,A)++vs u) (fun _ z acc=>acc++z) (fun acc=>acc) (by unfold fL;omega) (by simp[Im];omega)]
  ·rw[m8 (fun z:aR=>z)];have P:Im (s,u,A)++vs u++A.flatMap (fun z=>z)=body (s,u,A):=(by simp[body,List.flatMap_id']);rw[P,JV _ K (by omega)];simp only[cM];have YI:Ak (nat (body (s,u,A)))<4294967296:=Ik _ _ (by decide) (Il K);generalize hv:4294967295 - Ak (nat (body (s,u,A)))=v;have n5:v<4294967296:=(by omega);have Q:sh .shr .u32 (v:Int) 24=((v / 16777216:Nat):Int):=by
    show Int.fdiv _ _=_;have:(2:Int) ^ min (24:Int).toNat (IntKind.bits .u32)=16777216:=(by decide);rw[this,ye _ (by omega)];omega
   have R:sh .shr .u32 (v:Int) 16=((v / 65536:Nat):Int):=by
    show Int.fdiv _ _=_;have:(2:Int) ^ min (16:Int).toNat (IntKind.bits .u32)=65536:=(by decide);rw[this,ye _ (by omega)];omega
   have S:sh .shr .u32 (v:Int) 8=((v / 256:Nat):Int):=by
    show Int.fdiv _ _=_;have:(2:Int) ^ min (8:Int).toNat (IntKind.bits .u32)=256:=(by decide);rw[this,ye _ (by omega)];omega
   rw[Q,R,S,Du,Du,Du,Du];rw[WV _ _ (by simp;omega)];simp only[cM,bM,hv,D8];have T:v / 16777216 % 256=v / 16777216:=V8 (by omega);simp[T]
  ·rintro C z ab acc rfl hI;obtain⟨hz,_⟩:=G z (by simp);simp only[pU,YX,nD,cM];have gv:C.length<=32:=(by simp at E;omega);rw[WV _ _ (by omega),IP (n:=C.length) (m:=1000000) (by simp at E;omega) (by omega)];exact⟨rfl,by simp;omega⟩
  ·intro acc _;simp[dV]
 ·rintro C n ab acc rfl hI;have hn:=F n (by simp);obtain⟨m,rfl⟩:∃m:Nat,n=(m:Int):=⟨n.toNat,by omega⟩;simp only[pU,YX,nD,cM];have U:acc.length<=900000:=by simp at D;omega
  obtain⟨q,ZB,H,h4,L⟩:=OD (γ:=Step (Int×List Int) (Ex (List Int) (List Int×Option Int))) (step:=fun (B:Int×(List Int))=>
    bif (cm .gtr B.1 (127:Int)) then
     (Sw.app B.2 ([(ar .or .u8 (IntKind.wrap .u8 B.1) (128:Int))]:(List Int))).bind fun X=>
      some (.next ((sh .shr .i64 B.1 (7:Int)),X))
    else
     some (.done (.XT (B.1,B.2))))
   (k:=fun (I:Int×(List Int))=>(Sw.app I.2 ([(IntKind.wrap .u8 I.1)]:(List Int))).bind fun aa=>some (.next ((ar .add .i64 (C.length:Int) (1:Int)),aa)))
   (by
    intro n acc V h2 H;have:cm .gtr (n:Int) 127=true:=(by simp[cm];omega);simp only[this,YX];rw[Du,VI ⟨n % 256,pz _ (by decide)⟩,WV _ _ (by simp;omega),VJ];simp only[cM]
    rw[Nat.mod_mod_of_dvd _ (by decide:128 ∣ 256)])
   (by
    intro n acc V;have:cm .gtr (n:Int) 127=false:=by simp[cm];omega
    simp[this]) m acc (by omega) U
  have ac:=(Oe 4 m (by omega)).2;have ad:ZB.length+1=acc.length+(vf 4 m).length:=by
   have:=congrArg List.length L;simpa using this
  rw[H];simp only[Du];rw[WV _ _ (by simp at D;simp;omega),V8 (by omega:q<256),L,IP (n:=C.length) (m:=1000000) (by simp at D;omega) (by omega)];refine⟨by simp,by simp;omega⟩
 ·intro acc _;simp[dV]
theorem Zn{f:fM}(h:Good f):(bM f).length<=1000000:=by
 have:=(rJ h).2;simp[bM,D8];omega
theorem cl(m n:Int):cm .lss m n=decide (m<n):=rfl
theorem cg(m n:Int):cm .gtr m n=decide (m>n):=rfl
theorem cle(m n:Int):cm .leq m n=decide (m<=n):=rfl
theorem O6(m n:Int):cm .geq m n=decide (m>=n):=rfl
theorem ce(m n:Int):cm .eql m n=decide (m=n):=by show (m==n)=_;by_cases h:m=n<;>simp[h]
theorem cn(m n:Int):cm .neq m n=decide (m≠n):=by show (m != n)=_;by_cases h:m=n<;>simp[h]
theorem p5{m n:Int}(h: -9223372036854775808<=m+n/\m+n<=9223372036854775807):ar .add .i64 m n=m+n:=wrap_i64 h
theorem T5{m n:Int}(h: -9223372036854775808<=m - n/\m - n<=9223372036854775807):ar .sub .i64 m n=m - n:=wrap_i64 h
theorem C2{n:Nat}(h:n<=4611686018427387904):ar .add .i64 (n:Int) 1=((n+1:Nat):Int):=by rw[p5 (by omega)];push_cast;rfl
theorem Bytes.tail{x:Int}{l:List Int}(h:Bytes (x::l)):Bytes l:=fun y u=>h y (by simp[u])
theorem Bytes.head{x:Int}{l:List Int}(h:Bytes (x::l)):0<=x/\x<=255:=h x (by simp)
def Wi:List Int->Int×Bool×List Int
 | []=>(0,false,[])
 |b::r=>(b,true,r)
theorem Tp(l:List Int)(hl:l.length<=1000000):fD l=some (Wi l):=by
 unfold fD;cases l with
 |nil=>rfl
 |cons b r=>
  have:¬((b::r).length:Int)=0:=by simp;omega
  rw[ce];simp only[this,H3,pF];have h:Sw.idx (b::r) 0=some b:=rfl;have u:Sw.sub (b::r) 1 ((b::r).length:Int)=some r:=by
   unfold Sw.sub;rw[YC (by simp;omega)];simp
  rw[h,u];rfl
def xF:Nat->Nat->Nat->List Int->Int×Bool×List Int
 | 0,_,_,l=>(0,false,l)
 |_+1,_,_,[]=>(0,false,[])
 |k+1,i,v,b::l=>if b<128 then (((v+b.toNat % 128*128 ^ i:Nat):Int),decide (v+b.toNat % 128*128 ^ i<=2147483647) && (decide (0<b) || decide (i=0)),l) else xF k (i+1) (v+b.toNat % 128*128 ^ i) l
theorem VK:∀a:Fin 256,ar .and .u8 ((a.1:Nat):Int) 127=((a.1 % 128:Nat):Int):=by decide+kernel
theorem TP{b:Int}(h:0<=b/\b<=255):ar .and .u8 b 127=((b.toNat % 128:Nat):Int):=by
 have:=VK ⟨b.toNat,by omega⟩;have e:((b.toNat:Nat):Int)=b:=by omega
 simpa[e] using this
theorem TQ(i:Nat):128 ^ i=2 ^ (7*i):=by rw[Nat.pow_mul]
theorem VL{c i:Nat}(hi:i<=4)(hc:c<128):sh .shl .i64 (c:Int) ((7*i:Nat):Int)=((c*128 ^ i:Nat):Int):=by
 show IntKind.wrap .i64 ((c:Int)*2 ^ min ((7*i:Nat):Int).toNat (IntKind.bits .i64))=_;rw[A5,show IntKind.bits .i64=64 from rfl,tx (by omega),TQ];have h:2 ^ (7*i)<=2 ^ 28:=aEb (by decide) (by omega);have u:c*2 ^ (7*i)<=127*2 ^ 28:=aCu (by omega) h;have e:(c:Int)*2 ^ (7*i)=((c*2 ^ (7*i):Nat):Int):=by push_cast;rfl
 rw[e,wrap_i64 (by omega)]
theorem VM{a b:Nat}(ha:a<4611686018427387904)(hb:b<4611686018427387904):ar .or .i64 (a:Int) (b:Int)=((a ||| b:Nat):Int):=by
 have h:a ||| b<2 ^ 62:=aD3 (by simpa using ha) (by simpa using hb)
 show IntKind.wrap .i64 ((BitVec.ofInt 64 (a:Int) ||| BitVec.ofInt 64 (b:Int)).toNat:Int)=_;simp only[sF,BitVec.toNat_or,aB8];rw[V8 (a:=a) (by omega),V8 (a:=b) (by omega)];exact wrap_i64 (by omega)
theorem TR{v c i:Nat}(hi:i<=4)(hc:c<128)(hv:v<128 ^ i):ar .or .i64 (v:Int) ((c*128 ^ i:Nat):Int)=((v+c*128 ^ i:Nat):Int):=by
 have h:128 ^ i<=128 ^ 4:=aEb (by decide) hi;have u:c*128 ^ i<=127*128 ^ 4:=aCu (by omega) h;rw[VM (by omega) (by omega)];congr 1;rw[TQ] at*;have:=aEc hv c;rw[Nat.shiftLeft_eq] at this;rw[Nat.or_comm,<-this,aDg]
theorem TS{v c i:Nat}(hc:c<128)(hv:v<128 ^ i):v+c*128 ^ i<128 ^ (i+1):=by
 rw[aEh];have:c*128 ^ i<=127*128 ^ i:=xj _ (by omega);omega
theorem RC(l:List Int)(hb:Bytes l)(hl:l.length<=1000000):gJ l=some (xF 5 0 0 l):=by
 unfold gJ;have M:∀(k i v:Nat) (l:List Int) (f:Nat),i+k=5->v<128 ^ i->Bytes l->l.length<=1000000->k<f->
   ∃e,loop (fun (h:Int×Int×(List Int))=>
  bif (cm .lss h.2.1 (35:Int)) then
   (fD h.2.2).bind fun u=>
    bif (!u.2.1) then
     some (.done (.ret ((0:Int),false,u.2.2)))
    else
     (nn h.2.1).bind fun _=>
      bif (cm .lss u.1 (128:Int)) then
       (bif (cm .leq (ar .or .i64 h.1 (sh .shl .i64 (ar .and .u8 u.1 (127:Int)) h.2.1)) (2147483647:Int)) then
        bif (cm .gtr u.1 (0:Int)) then
         some true
        else
         some (cm .eql h.2.1 (0:Int))
       else
        some false).bind fun T=>
        some (.done (.ret ((ar .or .i64 h.1 (sh .shl .i64 (ar .and .u8 u.1 (127:Int)) h.2.1)),T,u.2.2)))
      else
       some (.next ((ar .or .i64 h.1 (sh .shl .i64 (ar .and .u8 u.1 (127:Int)) h.2.1)),(ar .add .i64 h.2.1 (7:Int)),u.2.2))
  else
   some (.done (.XT h.2.2))
  ) f ((v:Int),((7*i:Nat):Int),l)=some e/\out (fun (U:List Int)=>some ((0:Int),false,U)) e=some (xF k i v l):=by
  intro k
  induction k with
  |zero=>
   intro i v l f R I hb hl S;obtain⟨f,rfl⟩:∃f',f=f'+1:=⟨f - 1,by omega⟩;have N:i=5:=(by omega);subst N;exact⟨.XT l,rfl,rfl⟩
  |succ k V=>
   intro i v l f R I hb hl S;obtain⟨f,rfl⟩:∃f',f=f'+1:=⟨f - 1,by omega⟩;have O:cm .lss ((7*i:Nat):Int) 35=true:=(by rw[cl];simp;omega);have P:nn ((7*i:Nat):Int)=some ():=(by unfold nn;rw[YC (by omega)]);simp only[loop,O,YX,Tp l hl,cM];cases l with
   |nil=>exact⟨.ret (0,false,[]),by simp[Wi],rfl⟩
   |cons b l=>
    have Q:=hb.head;have D:b.toNat % 128<128:=pz _ (by decide);simp only[Wi,lu,pF,P,cM,TP Q,VL (by omega:i<=4) D,TR (by omega:i<=4) D I,cl,cle,cg,ce];by_cases A:b<128
    ·simp only[A,fw,YX];refine⟨.ret (((v+b.toNat % 128*128 ^ i:Nat):Int),decide (v+b.toNat % 128*128 ^ i<=2147483647) && (decide (0<b) || decide (i=0)),l),?_,?_⟩
     ·by_cases E:v+b.toNat % 128*128 ^ i<=2147483647
      ·have B:((v+b.toNat % 128*128 ^ i:Nat):Int)<=2147483647:=(by omega);by_cases F:b>0
       ·have G:0<b:=F;simp only[B,E,G,gt_iff_lt,fw,YX,cM,aEt,Bool.true_or]
       ·have G:¬0<b:=F;have H:(((7*i:Nat):Int)=0)↔i=0:=(by omega);simp only[B,E,F,G,H,fw,H3,YX,pF,cM,aEt,Bool.false_or]
      ·have B:¬((v+b.toNat % 128*128 ^ i:Nat):Int)<=2147483647:=(by omega);simp only[B,E,H3,pF,cM,Bool.false_and]
     ·simp only[out,xF,A,r7]
    ·simp only[A,H3,pF];have H:ar .add .i64 ((7*i:Nat):Int) 7=((7*(i+1):Nat):Int):=(by rw[p5 (by omega)];push_cast;omega);rw[H];obtain⟨e,K,C⟩:=V (i+1) (v+b.toNat % 128*128 ^ i) l f (by omega) (TS D I) hb.tail (by simp at hl;omega) (by omega);refine⟨e,K,?_⟩;rw[C];simp only[xF,A,r5]
 obtain⟨e,K,C⟩:=M 5 0 0 l fL rfl (by decide) hb hl (by unfold fL;omega);unfold lp;have L:=K;simp only[Nat.mul_zero] at L;rw[show ((0:Int),(0:Int),l)=(((0:Nat):Int),((0:Nat):Int),l) from rfl,L];cases e with
 | XT y=>exact C
 |ret z=>exact C
theorem Wj:∀(k i v:Nat) (l:List Int),(xF k i v l).2.2.length<=l.length
 | 0,_,_,l=>ZY _
 |_+1,_,_,[]=>ZY _
 |k+1,i,v,b::l=>by
  unfold xF;split
  ·simp
  ·exact ik (Wj k _ _ l) (by simp)
theorem CH:∀(k i v:Nat) (l r:List Int) (w:Int),i+k=5->v<128 ^ i->Bytes l->xF k i v l=(w,true,r)->
  ∃q:Nat,w=((v+q*128 ^ i:Nat):Int)/\v+q*128 ^ i<=2147483647/\l=vf (k - 1) q++r/\(0<i->0<q)
 | 0,_,_,_,_,_,_,_,_,h=>by simp[xF] at h
 |_+1,_,_,[],_,_,_,_,_,h=>by simp[xF] at h
 |k+1,i,v,b::l,r,w,P,K,B,h=>by
  have L:=B.head;unfold xF at h;split at h
  ·rename_i H;have C:b.toNat % 128=b.toNat:=V8 (by omega);simp only[V5,K0,aCi,aC3,C] at h;obtain⟨rfl,⟨u,z⟩,rfl⟩:=h;refine⟨b.toNat,rfl,u,?_,fun O=>by omega⟩;have e:((b.toNat:Nat):Int)=b:=(by omega);cases k with
   |zero=>simp[vf,e]
   |succ k=>simp only[aDv];unfold vf;rw[YC (by omega),e];rfl
  ·rename_i H;have D:b.toNat % 128<128:=pz _ (by decide);obtain⟨q,u,z,A,I⟩:=CH k (i+1) (v+b.toNat % 128*128 ^ i) l r w (by omega) (TS D K) B.tail h;have M:0<k:=by
    cases k with
    |zero=>simp[xF] at h
    |succ k=>omega
   obtain⟨k,rfl⟩:∃k',k=k'+1:=⟨k - 1,by omega⟩;have e:v+b.toNat % 128*128 ^ i+q*128 ^ (i+1)=v+(b.toNat % 128+128*q)*128 ^ i:=(by rw[aEh,O8];rw[aEf 128 q,Nat.mul_assoc q 128,aEf 128 (128 ^ i)];omega);have N:=I (by omega);refine⟨b.toNat % 128+128*q,by rw[u,e],by rw[<-e];exact z,?_,fun _=>by omega⟩;simp only[aDv] at A ⊢;unfold vf;rw[XV (by omega),A];have E:(b.toNat % 128+128*q) % 128=b.toNat % 128:=(by omega);have F:(b.toNat % 128+128*q) / 128=q:=(by omega);rw[E,F];have G:((128+b.toNat % 128:Nat):Int)=b:=(by omega);rw[G];rfl
theorem CI:∀(k i v q:Nat) (r:List Int),i+k=4->v+q*128 ^ i<=2147483647->(0<i->0<q)->xF (k+1) i v (vf k q++r)=(((v+q*128 ^ i:Nat):Int),true,r)
 | 0,i,v,q,r,C,z,u=>by
  have A:i=4:=by omega
  subst A;have h:q<128:=by omega
  have u:=u (by omega);have e:q % 128=q:=V8 h;simp only[vf,fy,Z1,xF,A5,e];rw[YC (by omega)];simp;omega
 |k+1,i,v,q,r,C,z,u=>by
  unfold vf;by_cases h:q<128
  ·have e:q % 128=q:=V8 h;simp only[h,r7,fy,Z1,xF,A5,e];rw[YC (by omega)];simp;omega
  ·simp only[h,r5,fy,xF,A5];rw[XV (by omega)];have B:(128+q % 128) % 128=q % 128:=(by omega);have e:v+q % 128*128 ^ i+q / 128*128 ^ (i+1)=v+q*128 ^ i:=by
    rw[aEh];have:q*128 ^ i=(q % 128+128*(q / 128))*128 ^ i:=(by rw[Nat.mod_add_div]);rw[this,O8,aEf 128 (q / 128),Nat.mul_assoc,aEf 128 (128 ^ i)];omega
   rw[B,CI k (i+1) (v+q % 128*128 ^ i) (q / 128) r (by omega) (by rw[e];exact z) (fun _=>by omega),e]
def Al:Nat->List Int->List Int->Option (List Int×List Int)
 | 0,acc,l=>some (l,acc)
 |n+1,acc,l=>if (xF 5 0 0 l).2.1 then Al n (acc++[(xF 5 0 0 l).1]) (xF 5 0 0 l).2.2 else none
theorem Ha:∀(k i v:Nat) (l:List Int),Bytes l->Bytes (xF k i v l).2.2
 | 0,_,_,l,h=>h
 |_+1,_,_,[],h=>h
 |k+1,i,v,b::l,h=>by
  unfold xF;split
  ·exact h.tail
  ·exact Ha k _ _ l h.tail
theorem Of:∀(n:Nat) (acc l r ZB:List Int),Bytes l->Al n acc l=some (r,ZB)->∃ns,ZB=acc++ns/\ns.length=n/\(∀x∈ns,0<=x/\x<=2147483647)/\l=vs ns++r
 | 0,acc,l,r,ZB,_,h=>by
  simp only[Al,E4,V5] at h;obtain⟨rfl,rfl⟩:=h;exact⟨[],by simp,rfl,fun x u=>by simp at u,rfl⟩
 |n+1,acc,l,r,ZB,A,h=>by
  unfold Al at h;split at h
  ·rename_i B;obtain⟨ns,C,D,E,F⟩:=Of n _ _ r ZB (Ha _ _ _ _ A) h;obtain⟨q,z,G,H,_⟩:=CH 5 0 0 l (xF 5 0 0 l).2.2 (xF 5 0 0 l).1 rfl (by decide) A (by rw[<-B]);simp only[Nat.pow_zero,Nat.mul_one,aC5] at z G;refine⟨(q:Int)::ns,by rw[C,z];simp,by simp[D],fun x u=>?_,?_⟩
   ·rcases B1.1 u with rfl | u
    ·omega
    ·exact E x u
   ·have e:vs ((q:Int)::ns)=vf 4 q++vs ns:=(by simp[vs]);rw[H,F,e,H7]
  ·cases h
theorem Wk:∀(ns acc r:List Int),(∀x∈ns,0<=x/\x<=2147483647)->Al ns.length acc (vs ns++r)=some (r,acc++ns)
 | [],acc,r,_=>by simp[Al,vs]
 |x::ns,acc,r,h=>by
  have A:=h x (by simp);have e:vs (x::ns)++r=vf 4 x.toNat++(vs ns++r):=by simp[vs]
  have g:=CI 4 0 0 x.toNat (vs ns++r) rfl (by omega) (fun h=>by omega);simp only[Nat.pow_zero,Nat.mul_one,aC5] at g;have u:((x.toNat:Nat):Int)=x:=by omega
  rw[e,H6,Al,g];simp only[r7,u];rw[Wk ns _ r (fun y z=>h y (by simp[z]))];simp
theorem La{c l:List Int}(hc:c.length=8):Sw.chunks 8 (c++l)=c::Sw.chunks 8 l:=by
 unfold Sw.chunks;have e:((c++l).length+8 - 1) / 8=(l.length+8 - 1) / 8+1:=by rw[sM,hc];omega
 rw[e,List.range_succ_eq_map,L4,aEx];congr 1
 ·rw[Nat.zero_mul,List.drop_zero,List.take_append_of_le_length (by omega),aCa (by omega)]
 ·apply List.map_congr_left;intro k _;simp only[Function.comp_apply,Nat.succ_eq_add_one];rw[show (k+1)*8=c.length+k*8 by omega,aD6];congr 1;simp
theorem Lb:∀(bs:List aR),(∀b∈bs,b.length=8)->Sw.chunks 8 bs.flatten=bs
 | [],_=>rfl
 |b::bs,h=>by rw[aC2,La (h b (by simp)),Lb bs (fun c u=>h c (by simp[u]))]
theorem Dv:∀(m:Nat) (l:List Int),l.length=8*m->(Sw.chunks 8 l).flatten=l/\(∀b∈Sw.chunks 8 l,b.length=8)/\(Sw.chunks 8 l).length=m
 | 0,l,h=>by
  have:l=[]:=List.length_eq_zero_iff.1 (by omega);subst this;exact⟨rfl,fun b u=>by simp[Sw.chunks] at u,rfl⟩
 |m+1,l,h=>by
  have e:l=l.take 8++l.drop 8:=(db 8 l).symm;have z:(l.take 8).length=8:=by simp;omega
  obtain⟨A,B,C⟩:=Dv m (l.drop 8) (by simp;omega);rw[e,La z];refine⟨by rw[aC2,A],fun b u=>?_,by simp[C]⟩;rcases B1.1 u with rfl | u
  ·exact z
  ·exact B b u
theorem JY{l:List Int}{bs:List aR}(h:bs.flatten=l)(hb:Bytes l):∀b∈bs,Bytes b:=fun b u x z=>hb x (by rw[<-h];exact List.mem_flatten.2 ⟨b,u,z⟩)
def Jw:List Int->Option fM
 |b0::b1::r=>match Al (b0.toNat % 16) [] r with
  |some (rest,h)=>if b1>32\/h.length>12\/(rest.length:Int)≠8*b1 then none else some (((b0.toNat / 16:Nat):Int),h,Sw.chunks 8 rest)
  |none=>none
 |_=>none
theorem CJ{n:Nat}(h:n<256):IntKind.wrap .u8 (n:Int)=n:=by rw[Du];omega
theorem Tq{f:fM}(g:Good f):Im f=[((16*f.1.toNat+f.2.1.length:Nat):Int),(f.2.2.length:Int)]:=by
 have h:=g.s0;have u:=g.s1;have z:=g.ns;have A:=g.bs;unfold Im;have e:ar .add .i64 (ar .mul .i64 16 f.1) (f.2.1.length:Int)=((16*f.1.toNat+f.2.1.length:Nat):Int):=by
  have:ar .mul .i64 16 f.1=16*f.1:=wrap_i64 (by omega);rw[this,p5 (by omega)];omega
 rw[e,CJ (by omega),CJ (by omega)]
theorem EW{b:List Int}{f:fM}(hb:Bytes b)(h:Jw b=some f):Good f/\eB f=0/\body f=b:=by
 match b,h with
 |b0::b1::r,h=>
  have P:=hb.head;have Q:=hb.tail.head;have z:=hb.tail.tail;simp only[Jw] at h;cases hn:Al (b0.toNat % 16) [] r with
  |none=>rw[hn] at h;cases h
  |some p=>
   obtain⟨rest,K⟩:=p;rw[hn] at h;simp only at h;split at h
   ·cases h
   ·rename_i R;simp only[E4] at h;subst h;obtain⟨S,B,L,C,D⟩:=Of _ _ _ _ _ z hn;simp only[Z1] at B;subst B;obtain⟨E,M,N⟩:=Dv b1.toNat rest (by omega);have F:Bytes rest:=fun x u=>z x (by rw[D];simp[u]);have A:Good (((b0.toNat / 16:Nat):Int),K,Sw.chunks 8 rest):=⟨by simp only;omega,by simp only;omega,by simp only;omega,by simp only;omega,C,fun b hb=>⟨M b hb,JY E F b hb⟩⟩;refine⟨A,?_,?_⟩
    ·unfold eB;rw[XV (by simp only;omega),XV (by simp only;omega),XV];intro I;obtain⟨x,u,O⟩:=aDe.1 I;have:=C x u;simp[wY] at O;omega
    ·unfold body;rw[Tq A];simp only[E,N,L,fy,Z1];rw[D];have G:((16*(((b0.toNat / 16:Nat):Int)).toNat+b0.toNat % 16:Nat):Int)=b0:=(by rw[A5];omega);have H:((b1.toNat:Nat):Int)=b1:=(by omega);rw[G,H]
theorem Wl{f:fM}(g:Good f):Jw (body f)=some f:=by
 have B:=g.s0;have C:=g.s1;have D:=g.ns;have E:=g.bs;unfold body;rw[Tq g];simp only[fy,Z1,Jw,A5];have h:(16*f.1.toNat+f.2.1.length) % 16=f.2.1.length:=by omega
 have u:(16*f.1.toNat+f.2.1.length) / 16=f.1.toNat:=by omega
 rw[h,u,Wk _ _ _ g.num];simp only[Z1];have F:=(C6 g.j1).2;rw[XV (by omega),Lb _ (fun b A=>(g.j1 b A).1)];have z:((f.1.toNat:Nat):Int)=f.1:=by omega
 rw[z]
def fB(a:List Int):Option fM:=
 if a.length<6 then none else if a.drop (a.length - 4)=D8 (4294967295 - Ak (nat (a.take (a.length - 4)))) then Jw (a.take (a.length - 4)) else none
theorem RD{n c:Nat}(hc:c<=32):sh .shr .u32 (n:Int) (c:Int)=((n / 2 ^ c:Nat):Int):=by
 show Int.fdiv _ _=_;rw[A5,show IntKind.bits .u32=32 from rfl,tx hc,ye _ (aEe (aEz (by decide)))];push_cast;rfl
theorem OE{S:Nat}(h:S<4294967296): [(IntKind.wrap .u8 (sh .shr .u32 (S:Int) (24:Int))),(IntKind.wrap .u8 (sh .shr .u32 (S:Int) (16:Int))),(IntKind.wrap .u8 (sh .shr .u32 (S:Int) (8:Int))),(IntKind.wrap .u8 (S:Int))]=D8 S:=by
 rw[show (24:Int)=((24:Nat):Int) from rfl,show (16:Int)=((16:Nat):Int) from rfl,show (8:Int)=((8:Nat):Int) from rfl,RD (by decide),RD (by decide),RD (by decide),Du,Du,Du,Du];unfold D8;have e:S / 2 ^ 24 % 256=S / 16777216:=by omega
 rw[e]
theorem TT:∀a:Fin 256,ar .and .u8 ((a.1:Nat):Int) 15=((a.1 % 16:Nat):Int):=by decide+kernel
theorem RE{b:Int}(h:0<=b/\b<=255):ar .and .u8 b 15=((b.toNat % 16:Nat):Int):=by
 have:=TT ⟨b.toNat,by omega⟩;have e:((b.toNat:Nat):Int)=b:=by omega
 simpa[e] using this
theorem VN:∀a:Fin 256,sh .shr .u8 ((a.1:Nat):Int) 4=((a.1 / 16:Nat):Int):=by decide+kernel
theorem TU{b:Int}(h:0<=b/\b<=255):sh .shr .u8 b 4=((b.toNat / 16:Nat):Int):=by
 have:=VN ⟨b.toNat,by omega⟩;have e:((b.toNat:Nat):Int)=b:=by omega
 simpa[e] using this
theorem VO{n:Nat}(h:n<200):ar .add .u8 (n:Int) 1=((n+1:Nat):Int):=by
 show IntKind.wrap .u8 ((n:Int)+1)=_;have:(n:Int)+1=((n+1:Nat):Int):=by push_cast;rfl
 rw[this,CJ (by omega)]
theorem Rq{z:fM×Option Int}(N:Nat)(hN:N<=15):∀(n j:Nat) (l acc:List Int) (f:Nat),j+n=N->Bytes l->l.length<=1000000->acc.length+n<=1000->n<f->
  loop (β:=Ex ((List Int)×(List Int)) (fM×Option Int)) (fun (K2:Int×(List Int)×(List Int))=>
                bif (cm .lss K2.1 (N:Int)) then
                 (gJ K2.2.1).bind fun q7=>
                  bif (!q7.2.1) then
                   some (.done (.ret z))
                  else
                   (Sw.app K2.2.2 ([q7.1]:(List Int))).bind fun N6=>
                    some (.next ((ar .add .u8 K2.1 (1:Int)),q7.2.2,N6))
                else
                 some (.done (.XT (K2.2.1,K2.2.2)))
                ) f ((j:Int),l,acc)=some (match Al n acc l with | some p=> .XT p | none=> .ret z)
 | 0,j,l,acc,f,B,u,A,C,D=>by
  obtain⟨f,rfl⟩:∃f',f=f'+1:=⟨f - 1,by omega⟩;have:cm .lss (j:Int) (N:Int)=false:=by rw[cl];simp;omega
  simp only[loop,this,pF,Al]
 |n+1,j,l,acc,f,B,u,A,C,D=>by
  obtain⟨f,rfl⟩:∃f',f=f'+1:=⟨f - 1,by omega⟩;have:cm .lss (j:Int) (N:Int)=true:=by rw[cl];simp;omega
  simp only[loop,this,YX,RC l u A,cM,Al];by_cases h:(xF 5 0 0 l).2.1=true
  ·simp only[h,lu,pF,r7];rw[WV _ _ (by simp;omega),cM,VO (by omega)];exact Rq N hN n (j+1) _ _ f (by omega) (Ha _ _ _ _ u) (ik (Wj _ _ _ _) A) (by simp;omega) (by omega)
  ·simp only[xk] at h;simp only[h,yd,YX,V6,r5]
theorem CK:∀(its acc:List aR),(∀i∈its,i.length=8)->acc.length+its.length<=1000000->
  er (δ:=Empty) (fun (yi:(List Int)) (gn:(List aR))=>
    (Sw.C7 8 yi).bind fun z46=>
     (Sw.app gn ([z46]:(List aR))).bind fun zd=>
      some (.next zd)
    ) its acc=some (.XT (acc++its))
 | [],acc,_,_=>by simp[er]
 |i::is,acc,h,u=>by
  have A:=h i (by simp);have e:Sw.C7 8 i=some i:=by unfold Sw.C7;rw[YC (by omega),aCa (by omega)]
  simp only[er,e,cM];rw[WV _ _ (by simp at u ⊢;omega)];simp only[cM];rw[CK is _ (fun j z=>h j (by simp[z])) (by simp at u ⊢;omega)];simp
theorem oX(a:List Int)(hb:Bytes a)(hl:a.length<=10000):fH a=some (match fB a with | some f=>(f,none) | none=>((0,[],[]),some 3)):=by
 unfold fH fB;rw[cl];by_cases G:a.length<6
 ·have:(a.length:Int)<6:=by omega
  simp[G,this]
 have O:¬(a.length:Int)<6:=by omega
 simp only[G,O,H3,pF,r5];generalize hL:a.length - 4=L;have P:ar .sub .i64 (a.length:Int) 4=(L:Int):=by rw[T5 (by omega)];omega
 have Q:Sw.sub a 0 (L:Int)=some (a.take L):=by unfold Sw.sub;rw[YC (by omega)];simp
 have B:(a.take L).length=L:=by simp;omega
 have R:Sw.sub a (L:Int) (a.length:Int)=some (a.drop L):=by unfold Sw.sub;rw[YC (by omega)];simp
 have ab:(a.drop L).length=4:=by simp;omega
 have S:Sw.C7 4 (a.drop L)=some (a.drop L):=by unfold Sw.C7;rw[YC (by omega),aCa (by omega)]
 have C:Bytes (a.take L):=fun x hx=>hb x (aCp hx);have T:=JV (a.take L) C (by omega);rw[P,Q,cM,T,cM,B,R,cM,S,cM,OE (by omega)];by_cases H:a.drop L=D8 (4294967295 - Ak (nat (a.take L)))
 ·simp only[H,fw,lu,pF,r7];generalize hp:a.take L=p at*
  match p,B with
  | [],h=>simp at h;omega
  | [_],h=>simp at h;omega
  |b0::b1::r,B=>
   have I:=C.head;have O4:=C.tail.head;have K:=C.tail.tail;have U4:r.length<=10000:=(by simp at B;omega);rw[Tp _ (by simp;omega),cM];simp only[Wi];rw[Tp _ (by simp;omega),cM];simp only[Wi,RE I,TU I,Jw];have U:=Rq (z:=((0,[],[]),some 3)) (b0.toNat % 16) (by omega) (b0.toNat % 16) 0 r [] fL (by omega) K (by omega) (by simp;omega) (by unfold fL;omega);unfold lp;rw[show ((0:Int),r,([]:List Int))=(((0:Nat):Int),r,([]:List Int)) from rfl,U];cases hn:Al (b0.toNat % 16) [] r with
   |none=>rfl
   |some q=>
    obtain⟨u,E⟩:=q;obtain⟨ac,N,h2,h3,h4⟩:=Of _ _ _ _ _ K hn;simp only[Z1] at N;subst N;have q8:u.length<=r.length:=(by rw[h4];simp);have V:ar .mul .i64 b1 8=8*b1:=(by show IntKind.wrap .i64 _=_;rw[wrap_i64 (by omega)];omega);simp only[cg,cn,V];by_cases D:b1>32
    ·simp[D]
    by_cases F:E.length>12
    ·have A:(E.length:Int)>12:=(by omega);simp[D,F,A]
    by_cases M:(u.length:Int)≠8*b1
    ·have A:¬(E.length:Int)>12:=(by omega);simp[D,F,A,M]
    have A:¬(E.length:Int)>12:=(by omega);have X:(u.length:Int)=8*b1:=aC7.1 M;obtain⟨g1,g2,g3⟩:=Dv b1.toNat u (by omega);have fq:kD u 8=some (u,8):=rfl;have aa:small u=some ():=(by unfold small;rw[YC (by omega)]);have we:rz 8=some ():=(by decide);simp only[D,F,A,X,ne_eq,aE0,H3,pF,cM,aE1,r5,fq,aa,we,rg];rw[show Int.toNat 8=8 from rfl,CK _ _ g2 (by simp;omega)];simp
 ·simp only[H,H3,yd,YX,r5]
theorem Hb{a:List Int}{f:fM}(hb:Bytes a)(h:fB a=some f):Good f/\eB f=0/\bM f=a:=by
 unfold fB at h;split at h
 ·cases h
 ·split at h
  ·rename_i D u;obtain⟨A,B,C⟩:=EW (fun x z=>hb x (aCp z)) h;refine⟨A,B,?_⟩;unfold bM;rw[C,<-u,db]
  ·cases h
theorem fJ{f:fM}(g:Good f):fB (bM f)=some f:=by
 have A:2<=(body f).length:=by unfold body;rw[Tq g];simp
 have h:(bM f).length=(body f).length+4:=by simp[bM,D8]
 have u:(bM f).take ((bM f).length - 4)=body f:=by rw[h,aDv];unfold bM;simp
 have z:(bM f).drop ((bM f).length - 4)=D8 (4294967295 - Ak (nat (body f))):=by rw[h,aDv];unfold bM;simp
 unfold fB;rw[XV (by omega),u,z,YC rfl,Wl g]
theorem m5{α β:Type}{step:α->Option (Step α β)}{x y:α}{f:Nat}(h:step x=some (.next y)):loop step (f+1) x=loop step f y:=by simp only[loop,h]
theorem ZX{α β:Type}{step:α->Option (Step α β)}{x:α}{b:β}{f:Nat}(h:step x=some (.done b)):loop step (f+1) x=some b:=by simp only[loop,h]
theorem Zo{S:Nat}(h:S<4294967296):Bytes (D8 S):=fun x u=>by
 simp only[D8,B1,aCm,aEl] at u;rcases u with rfl | rfl | rfl | rfl<;>omega
theorem pX{f:fM}(g:Good f):Bytes (bM f):=fun x h=>by
 unfold bM at h;rcases S9.1 h with h | h
 ·exact(rJ g).1 x h
 ·exact Zo (by omega) x h
theorem KA(x:Int):qB x=some (wY x):=by
 unfold qB wY;by_cases h:x<0
 ·have:cm .lss x 0=true:=by simp[cm,h]
  simp[this,h]
 ·have:cm .lss x 0=false:=by simp[cm];omega
  simp[this,h,cm]
theorem Tr(l:List Int)(h:l.length<=1000000):dC l=some (l.any wY):=by
 unfold dC eJ;rw[show (0:Int)=((0:Nat):Int) from rfl,Bs (l:=l) (fun i (_:Unit)=>(i:Int)) () (fun i x _=>if wY x then .done (.ret (i:Int)) else .next ()) (fun _=> .XT ()) (by unfold fL;omega)]
 ·rw[Wd (fun i=>(i:Int)),We];cases l.findIdx? wY<;>simp[out,cm]
 ·rintro u x z acc rfl;simp only[pU,YX,nD,cM,KA,IP (n:=u.length) (m:=1000000) (by simp at h;omega) (by omega)];cases wY x<;>simp[Jh]
 ·intro _;simp[dV]
theorem A1(a b:Int):qL [a,b]=some (!(wY a || wY b)):=by
 unfold qL;rw[Tr _ (by simp)];simp
theorem A4{x:Int}:wY x=false↔0<=x/\x<=2147483647:=by unfold wY;simp
theorem RF{α A β γ:Type}{step:α->Option (Step α (Ex β γ))}{l:List A}{k:β->Option γ}(st:Nat->α)(z:A->Option γ)(y:β)(hf:l.length<fL)
  (hs:∀pre x rest,l=pre++x::rest->step (st pre.length)=some (match z x with | some v=> .done (.ret v) | none=> .next (st (pre.length+1)))) (he:step (st l.length)=some (.done (.XT y))):
  lp step (st 0) k=(l.findSome? z).elim (k y) some:=by
 have u:∀(rest pre:List A) (f:Nat),l=pre++rest->rest.length<f->loop step f (st pre.length)=some (match rest.findSome? z with | some v=> .ret v | none=> .XT y):=by
  intro rest
  induction rest with
  |nil=>
   intro pre f h hf;obtain⟨f,rfl⟩:∃f',f=f'+1:=⟨f - 1,by simp at hf;omega⟩;rw[cw] at h;rw[<-h];simp[loop,he]
  |cons x rest B=>
   intro pre f h hf;obtain⟨f,rfl⟩:∃f',f=f'+1:=⟨f - 1,by simp at hf;omega⟩;simp only[loop,hs pre x rest h,List.findSome?_cons];cases hz:z x with
   |some v=>simp
   |none=>
    have:=B (pre++[x]) f (by rw[h];simp) (by simp at hf;omega);simpa using this
 have:=u l [] fL rfl hf;unfold lp;simp only[ak] at this;rw[this];cases l.findSome? z<;>rfl
def dQ(f:fM):Int:=if eB f=0 then (if 9<f.2.1.length then 2 else 0) else eB f
theorem CL(f:fM):uD f=some (if dQ f=0 then none else some (dQ f)):=by
 unfold uD dQ;rw[Gd,cM,cg];by_cases h:eB f=0
 ·simp only[h,r7,p7,pF];by_cases u:9<f.2.1.length
  ·have:(f.2.1.length:Int)>9:=(by omega);simp[u,this]
  ·have:¬(f.2.1.length:Int)>9:=(by omega);simp[u,this]
 ·simp[h]
def uU(l:List fM):Option Int:=l.findSome? fun f=>if dQ f=0 then none else some (dQ f)
abbrev uV:=Int×Int×List fM
def jO(s:uV):Int:=if wY s.1 || wY s.2.1 then 1 else if 64<s.2.2.length then 2 else (uU s.2.2).getD 0
theorem Wm{l:List fM}{e:Int}(h:uU l=some e):e≠0:=by
 obtain⟨f,_,u⟩:=List.exists_of_findSome?_eq_some h;split at u
 ·cases u
 ·cases u;assumption
theorem o8(s:uV):pQ s=some (if jO s=0 then none else some (jO s)):=by
 unfold pQ jO;rw[A1,cM];by_cases u:(wY s.1 || wY s.2.1)=true
 ·simp[u]
 ·simp only[xk] at u;simp only[u,yd,lu,pF,V6,r5,cg];by_cases z:64<s.2.2.length
  ·have:(s.2.2.length:Int)>64:=(by omega);simp[z,this]
  ·have:¬(s.2.2.length:Int)>64:=(by omega);simp only[z,this,H3,pF,r5];rw[show (0:Int)=(fun (i:Nat)=>(i:Int)) 0 from rfl];rw[RF (l:=s.2.2) (fun (i:Nat)=>(i:Int)) (fun f=>if dQ f=0 then none else some (some (dQ f))) () (by unfold fL;omega)]
   ·have e:s.2.2.findSome? (fun f=>if dQ f=0 then none else some (some (dQ f)))=(uU s.2.2).map some:=by
     unfold uU
     induction s.2.2 with
     |nil=>rfl
     |cons f l B=>simp only[List.findSome?_cons];by_cases h:dQ f=0<;>simp[h,B]
    rw[e];cases hf:uU s.2.2 with
    |none=>simp
    |some e=>have:=Wm hf;simp[this]
   ·rintro C x D h;rw[h];simp only[pU,YX,nD,cM,CL];rw[C2 (by have:=congrArg List.length h;simp at this;omega)];by_cases A:dQ x=0<;>simp[A]
   ·simp[dV]
def Wn(f:fM):Prop:=f.2.1.length<=1000/\f.2.2.length<=1000
theorem Wo{f:fM}(h:dQ f=0):Wn f:=by
 unfold dQ at h;split at h
 ·rename_i u;unfold eB at u;unfold Wn;split at u
  ·simp at u
  ·split at u
   ·simp at u
   ·omega
 ·exact absurd h (by assumption)
theorem Lc{s:uV}(h:jO s=0):(0<=s.1/\s.1<=2147483647)/\(0<=s.2.1/\s.2.1<=2147483647)/\s.2.2.length<=64/\∀f∈s.2.2,Wn f:=by
 unfold jO at h;split at h
 ·simp at h
 ·rename_i u;simp only[xk,Bool.or_eq_false_iff] at u;split at h
  ·simp at h
  ·rename_i C;refine⟨A4.1 u.1,A4.1 u.2,by omega,fun f B=>Wo ?_⟩;have A:uU s.2.2=none:=by
    cases hf2:uU s.2.2 with
    |none=>rfl
    |some e=>rw[hf2] at h;exact absurd h (Wm hf2)
   have:=List.findSome?_eq_none_iff.1 A f B;by_cases z:dQ f=0
   ·exact z
   ·simp[z] at this
theorem Wp(l:List fM)(hl:l.length<=64)(h:∀f∈l,Wn f):sC l=some l:=by
 unfold sC;rw[show ((0:Int),([]:List fM))=(fun (i:Nat) (acc:List fM)=>((i:Int),acc)) 0 [] from rfl];rw[I0 (l:=l) (fun (i:Nat) (acc:List fM)=>((i:Int),acc)) (fun i acc=>acc.length=i) [] (fun _ f acc=>acc++[f]) id (by unfold fL;omega) rfl]
 ·have:∀(l:List fM) (i:Nat) (acc:List fM),(l.zipIdx i).foldl (fun acc x=>acc++[x.1]) acc=acc++l:=by
   intro l
   induction l with
   |nil=>intro i acc;simp
   |cons x l G=>intro i acc;rw[aCk,Z0,G];simp
  rw[this];rfl
 ·intro u x A acc z F;have B:=h x (by rw[z];simp);have H:u.length<64:=by have:=congrArg List.length z;simp at this;omega
  have C:cm .lss (u.length:Int) (l.length:Int)=true:=by rw[z];exact pU u x A
  have D:Sw.idx l (u.length:Int)=some x:=by rw[z];exact nD u x A
  have E:nB x=some x:=by
   unfold nB lK aP;unfold Wn at B;rw[WV _ _ (by simp;omega),WV _ _ (by simp;omega)];rfl
  simp only[C,D,E,YX,cM];rw[WV _ _ (by simp;omega),C2 (by omega)];exact⟨rfl,by simp[F]⟩
 ·intro acc _;simp only[dV,pF];rfl
theorem P5{α:Type}(l:List α)(n:Nat)(h:n<=l.length):Sw.sub l (n:Int) (l.length:Int)=some (l.drop n):=by
 unfold Sw.sub;rw[YC (by omega)];simp
theorem R7{a c:Int}(h1:0<=a/\a<=2147483647)(h2:0<=c/\c<=2147483647):eB ((0:Int),[a,c],([]:List aR))=0/\Good ((0:Int),[a,c],([]:List aR)):=by
 have e:eB ((0:Int),[a,c],([]:List aR))=0:=by
  unfold eB;simp[A4.2 h1,A4.2 h2]
 exact⟨e,qT e (fun b h=>by simp at h)⟩
def Cj{A B:Type}(g:Nat->A->B->Option B):Nat->B->List A->Option B
 |_,acc,[]=>some acc
 |i,acc,x::l=>(g i x acc).bind fun h=>Cj g (i+1) h l
theorem RG{α A B β γ:Type}{step:α->Option (Step α (Ex β γ))}{l:List A}{k:β->Option γ}(st:Nat->B->α)(I:Nat->B->Prop)(j2:B)(g:Nat->A->B->Option B)(ex:Ex β γ)(fin:B->β)(hf:l.length<fL)(h0:I 0 j2)
  (hs:∀pre x rest acc,l=pre++x::rest->I pre.length acc->step (st pre.length acc)=some (match g pre.length x acc with | some ZB=> .next (st (pre.length+1) ZB) | none=> .done ex)/\∀ZB,g pre.length x acc=some ZB->I (pre.length+1) ZB)
  (he:∀acc,I l.length acc->step (st l.length acc)=some (.done (.XT (fin acc)))):
  lp step (st 0 j2) k=(Cj g 0 j2 l).elim (out k ex) (fun acc=>k (fin acc))/\∀acc,Cj g 0 j2 l=some acc->I l.length acc:=by
 have E:∀(rest pre:List A) (f:Nat) (acc:B),l=pre++rest->rest.length<f->I pre.length acc->loop step f (st pre.length acc)=some ((Cj g pre.length acc rest).elim ex (fun acc=> .XT (fin acc)))/\∀ZB,Cj g pre.length acc rest=some ZB->I l.length ZB:=by
  intro rest
  induction rest with
  |nil=>
   intro pre f acc u hf z;obtain⟨f,rfl⟩:∃f',f=f'+1:=⟨f - 1,by simp at hf;omega⟩;rw[cw] at u;rw[<-u] at z ⊢;exact⟨by simp[loop,he acc z,Cj],fun ZB h=>by simp only[Cj,E4] at h;rw[<-h];exact z⟩
  |cons x rest F=>
   intro pre f acc u hf z;obtain⟨f,rfl⟩:∃f',f=f'+1:=⟨f - 1,by simp at hf;omega⟩;obtain⟨C,D⟩:=hs pre x rest acc u z;simp only[loop,C,Cj];cases hg:g pre.length x acc with
   |none=>exact⟨by simp,fun ZB h=>by simp at h⟩
   |some ZB=>
    have:=F (pre++[x]) f ZB (by rw[u];simp) (by simp at hf;omega) (by simpa using D ZB hg);simpa using this
 obtain⟨C,D⟩:=E l [] fL j2 rfl hf h0;refine⟨?_,D⟩;unfold lp;simp only[ak] at C;rw[C];cases Cj g 0 j2 l with
 |none=>cases ex<;>rfl
 |some _=>rfl
def XW(s:uV)(i:Nat)(f:fM):fM:=(1,[s.1,s.2.1+(i:Int),f.1]++f.2.1,f.2.2)
def Rr(s:uV)(i:Nat)(f:fM)(acc:List (List Int)):Option (List (List Int)):=if s.2.1+(i:Int)>2147483647 then none else some (acc++[bM (XW s i f)])
theorem A3{f:fM}(h:dQ f=0):eB f=0/\f.2.1.length<=9:=by
 unfold dQ at h;split at h
 ·rename_i u;refine⟨u,?_⟩;split at h
  ·simp at h
  ·omega
 ·exact absurd h (by assumption)
theorem H2{s:uV}{i:Nat}{f:fM}(h1:0<=s.1/\s.1<=2147483647)(h2:0<=s.2.1)(hi:s.2.1+(i:Int)<=2147483647)(hf:dQ f=0)(hb:∀b∈f.2.2,b.length=8/\Bytes b):eB (XW s i f)=0/\Good (XW s i f):=by
 obtain⟨E,G⟩:=A3 hf;have g:=qT E hb;have e:eB (XW s i f)=0:=by
  have h:f.2.1.any wY=false:=by
   rw[aEq];intro n D;have:=A4.2 (g.num n D);simp[this]
  have u:=A4.2 h1;have z:wY (s.2.1+(i:Int))=false:=A4.2 ⟨by omega,hi⟩;have A:wY f.1=false:=A4.2 ⟨g.s0,by have:=g.s1;omega⟩;have F:=g.bs;unfold eB XW;have B:¬((1:Int)<0\/(1:Int)>15):=by omega
  have C:¬(([s.1,s.2.1+(i:Int),f.1]++f.2.1).length>12\/f.2.2.length>32):=by simp;omega
  simp only[B,C,r5];simp[u,z,A,h]
 exact⟨e,qT e hb⟩
def WH(s:uV):Prop:=∀f∈s.2.2,dQ f=0/\∀b∈f.2.2,b.length=8/\Bytes b
def Uk(s:uV):List fM:=s.2.2.take (min s.2.2.length 4)
theorem RH{s:uV}{pre rest:List fM}{x:fM}(h:Uk s=pre++x::rest):pre.length<min s.2.2.length 4/\s.2.2[pre.length]? =some x/\x∈s.2.2:=by
 have z:pre.length<min s.2.2.length 4:=by have:=congrArg List.length h;simp[Uk] at this;omega
 have u:(Uk s)[pre.length]? =some x:=by rw[h];simp
 unfold Uk at u;rw[List.getElem?_take,YC z] at u;exact⟨z,u,aB7 u⟩
theorem OF(s:uV):(Uk s).length=min s.2.2.length 4:=by simp[Uk]
theorem CM(s:uV)(h0:jO s=0)(hq:WH s):pL s=(Cj (Rr s) 0 [] (Uk s)).elim (some ([],some 1)) (fun acc=>some (acc,none))/\
  ∀acc,Cj (Rr s) 0 [] (Uk s)=some acc->acc.length=(Uk s).length/\∀x∈acc,x.length<=1000000:=by
 obtain⟨O,P,S,T⟩:=Lc h0;unfold pL;rw[o8,YC h0,cM];have F:Sw.sub s.2.2 (0:Int) (min (s.2.2.length:Int) (4:Int))=some (Uk s):=by
  unfold Sw.sub Uk;rw[YC (by omega)];simp;omega
 rw[F];simp only[p7,pF,cM];refine RG (l:=Uk s) (fun (i:Nat) (acc:List (List Int))=>((i:Int),acc)) (fun i acc=>acc.length=i/\∀x∈acc,x.length<=1000000) [] (Rr s) (.ret ([],some 1)) id (by rw[OF];unfold fL;omega) ⟨rfl,fun x B=>by simp at B⟩ ?_ ?_
 ·intro u x C acc h D;obtain⟨U,V,A⟩:=RH h;have G:cm .lss (u.length:Int) ((Uk s).length:Int)=true:=by rw[h];exact pU u x C
  have H:Sw.idx (Uk s) (u.length:Int)=some x:=by rw[h];exact nD u x C
  have I:ar .add .i64 s.2.1 (u.length:Int)=s.2.1+(u.length:Int):=p5 (by omega);simp only[G,H,I,YX,cM,cg,Rr];by_cases c:s.2.1+(u.length:Int)>2147483647
  ·simp[c]
  ·obtain⟨Q,E⟩:=H2 (i:=u.length) O P.1 (by omega) (hq x A).1 (hq x A).2;have B:=A3 (hq x A).1;have K:Sw.app ([s.1,s.2.1+(u.length:Int),x.1]:List Int) x.2.1=some ([s.1,s.2.1+(u.length:Int),x.1]++x.2.1):=WV _ _ (by simp;omega);have L:nA ((1:Int),[s.1,s.2.1+(u.length:Int),x.1]++x.2.1,x.2.2)=some (bM (XW s u.length x),none):=Fk E Q;have M:Sw.app acc [bM (XW s u.length x)]=some (acc++[bM (XW s u.length x)]):=WV _ _ (by simp;omega);simp only[c,H3,pF,r5,K,L,M,cM,p7];rw[C2 (by omega)];refine⟨rfl,fun R N=>?_⟩;cases N;refine⟨by simp[D.1],fun y z=>?_⟩;rcases S9.1 z with z | z
   ·exact D.2 y z
   ·simp at z;subst z;exact Zn E
 ·intro acc _;simp only[dV,pF];rfl
theorem Zp{l:List fM}(h:∀f∈l,dQ f=0):uU l=none:=by
 unfold uU;rw[List.findSome?_eq_none_iff];intro f u;rw[YC (h f u)]
variable {S M:Nat}
theorem m4{f:fM}:bM f≠ []:=by unfold bM body Im;simp
theorem Og{f:fM}:IF (bM f)=some ():=by
 unfold IF;rw[XV];intro h;exact m4 (List.isEmpty_iff.1 h)
end Go.YA
namespace Go.og
open Go.Pl
open Go Go.Sw Go.Mo
def Rs:Nat:=18446744073709551616
theorem Wq(n:Nat):IntKind.wrap .u64 (n:Int)=((n % Rs:Nat):Int):=by
 simp[IntKind.wrap,IntKind.signed,IntKind.bits,Rs]
theorem TV{a b:Nat}(ha:a<Rs)(hb:b<Rs):ar .xor .u64 (a:Int) (b:Int)=((a ^^^ b:Nat):Int):=by
 have h:a ^^^ b<2 ^ 64:=aCd (by simpa[Rs] using ha) (by simpa[Rs] using hb);show IntKind.wrap .u64 ((BitVec.ofInt 64 (a:Int) ^^^ BitVec.ofInt 64 (b:Int)).toNat:Int)=_;simp only[sF,aEu,aB8];rw[V8 (by simpa[Rs] using ha),V8 (by simpa[Rs] using hb),Wq,V8 (by simpa[Rs] using h)]
theorem VP{a b:Nat}:ar .mul .u64 (a:Int) (b:Int)=((a*b % Rs:Nat):Int):=by
 show IntKind.wrap .u64 ((a:Int)*(b:Int))=_;rw[show (a:Int)*(b:Int)=((a*b:Nat):Int) from by push_cast;rfl,Wq]
def PZ:Nat:=1099511628211
def TW(h b:Nat):Nat:=(h ^^^ b)*PZ % Rs
theorem KB(h b:Nat):TW h b<Rs:=pz _ (by decide)
def KC(l:List Int):Nat:=(nat l).foldl TW 14695981039346656037
theorem KD(l:List Nat)(h:Nat)(hh:h<Rs):l.foldl TW h<Rs:=by
 induction l generalizing h with
 |nil=>exact hh
 |cons x l u=>exact u _ (KB _ _)
theorem CN(l:List Int):KC l<Rs:=KD _ _ (by decide)
theorem Rt{A B:Type}(f:B->A->B):∀(l:List A) (i:Nat) (b:B),(l.zipIdx i).foldl (fun acc x=>f acc x.1) b=l.foldl f b
 | [],_,_=>rfl
 |x::l,i,b=>by simp only[aCk,Z0];exact Rt f l (i+1) _
theorem Ru(l:List Int)(h:Bytes l)(hl:l.length<=1000000):qM l=some (KC l:Int):=by
 unfold qM;rw[show ((14695981039346656037:Int),(0:Int))=(fun (i:Nat) (r:Nat)=>((r:Int),(i:Int))) 0 14695981039346656037 from rfl];rw[I0 (l:=l) (fun (i:Nat) (r:Nat)=>((r:Int),(i:Int))) (fun _ r=>r<Rs) 14695981039346656037 (fun _ x r=>TW r x.toNat) (fun r=>(r:Int)) (by unfold fL;omega) (by decide)]
 ·rw[Rt (fun r (x:Int)=>TW r x.toNat)];simp only[KC,nat,List.foldl_map]
 ·rintro z x C r rfl A;have B:=h x (by simp);obtain⟨b,rfl⟩:∃b:Nat,x=(b:Int):=⟨x.toNat,by omega⟩;have u:b<Rs:=by unfold Rs;omega
  refine⟨?_,KB _ _⟩;simp only[pU,YX,nD,cM,TV A u];rw[show (1099511628211:Int)=((PZ:Nat):Int) from rfl,VP,IP (n:=z.length) (m:=1000000) (by simp at hl;omega) (by omega)];rfl
 ·intro acc _;simp only[dV,pF]
def Yf(h:Int):List Int:=(List.range 8).map fun j=>((h.toNat / 2 ^ (56 - 8*j) % 256:Nat):Int)
theorem EX(h:Int):Bytes (Yf h):=by
 intro x u;simp only[Yf,fx] at u;obtain⟨j,_,rfl⟩:=u;have:=pz (h.toNat / 2 ^ (56 - 8*j)) (show 0<256 by decide);omega
theorem Mg(h:Int):(Yf h).length=8:=by simp[Yf]
def Rv(l:List Int):List Int:=1::l.flatMap Yf
theorem C6{A:Type}(f:A->List Int)(l:List A)(h:∀x∈l,Bytes (f x)):Bytes (l.flatMap f):=by
 intro y u;obtain⟨x,z,u⟩:=aD7.1 u;exact h x z y u
theorem Ws(l:List Int):Bytes (Rv l):=by
 intro y h;rcases B1.1 h with rfl | h
 ·decide
 ·exact C6 Yf l (fun x _=>EX x) y h
theorem KE{A:Type}(f:A->List Int)(m:Nat)(l:List A)(h:∀x∈l,(f x).length=m):(l.flatMap f).length=l.length*m:=by
 induction l with
 |nil=>simp
 |cons x l z=>
  rw[aEr,sM,h x (by simp),z (fun y u=>h y (by simp[u])),H6,O8,tr,aDg]
theorem EY(l:List Int):(Rv l).length=1+l.length*8:=by
 rw[Rv,H6,KE Yf 8 l (fun x _=>Mg x)];omega
def EZ(l:List Int):Int:=(KC (Rv l):Int)
def sg(l:List Int):Prop:=∀x∈l,0<=x/\x<18446744073709551616
theorem RI(l:List Int):0<=EZ l/\EZ l<18446744073709551616:=by
 have:=CN (Rv l);unfold EZ;unfold Rs at this;omega
theorem aOh(n k:Nat)(hk:k<=64):sh .shr .u64 (n:Int) (k:Int)=((n / 2 ^ k:Nat):Int):=by
 show Int.fdiv _ _=_;have:min (k:Int).toNat (IntKind.bits .u64)=k:=by simp[IntKind.bits];omega
 rw[this];rw[ye _ (by exact aEe (aEz (by decide)))]
 norm_cast
theorem OG(l:List Int)(hu:sg l)(hl:l.length<=1000):uE l=some (EZ l):=by
 unfold uE;rw[show ((0:Int),([(1:Int)]:List Int))=(fun (i:Nat) (r:List Int)=>((i:Int),r)) 0 [1] from rfl];rw[I0 (l:=l) (fun (i:Nat) (r:List Int)=>((i:Int),r)) (fun i r=>r.length<=1+8*i) [1] (fun _ x r=>r++Yf x) (fun r=>r) (by unfold fL;omega) (by simp)]
 ·rw[m8 Yf l 0 [1]];have: [1]++l.flatMap Yf=Rv l:=rfl;rw[this,Ru _ (Ws l) (by rw[EY];omega)];rfl
 ·rintro h x H r rfl I;have F:=hu x (by simp);obtain⟨b,rfl⟩:∃b:Nat,x=(b:Int):=⟨x.toNat,by omega⟩;have G:h.length<=1000:=by simp at hl;omega
  refine⟨?_,by simp[Mg];omega⟩;simp only[pU,YX,nD,cM];rw[show ((56:Int),r)=(fun i:Nat=>((56:Int) - 8*i,r++(Yf b).take i)) 0 from by simp];rw[Vp (fun i:Nat=>((56:Int) - 8*i,r++(Yf b).take i)) 8 (r++Yf b) (by unfold fL;omega)]
  ·rw[IP (n:=h.length) (m:=1000000) (by omega) (by omega)]
  ·intro i E;have u:((56:Int) - 8*(i:Int))=((56 - 8*i:Nat):Int):=(by omega);have z:cm .geq ((56:Int) - 8*(i:Int)) 0=true:=(by unfold cm;simp;omega);have A:nn ((56:Int) - 8*(i:Int))=some ():=(by unfold nn;rw[YC (by omega)]);have B:ar .sub .i64 ((56:Int) - 8*(i:Int)) 8=(56:Int) - 8*((i+1:Nat):Int):=by
    show IntKind.wrap .i64 _=_;rw[wrap_i64 (by omega)];push_cast;omega
   have C:IntKind.wrap .u8 (sh .shr .u64 (b:Int) ((56:Int) - 8*(i:Int)))=((b / 2 ^ (56 - 8*i) % 256:Nat):Int):=by
    rw[u,aOh _ _ (by omega)];simp[IntKind.wrap,IntKind.signed,IntKind.bits]
   have D:(Yf b).take (i+1)=(Yf b).take i++[((b / 2 ^ (56 - 8*i) % 256:Nat):Int)]:=by
    rw[List.take_add_one];congr 1;simp only[Yf];rw[oe,List.getElem?_range E];simp
   simp only[z,YX,A,cM,C];rw[WV _ _ (by simp[Mg];omega),cM,B,D,H7]
  ·have:cm .geq ((56:Int) - 8*((8:Nat):Int)) 0=false:=(by decide);simp only[this,pF];rw[aCa (by rw[Mg];omega)]
 ·intro acc _;simp only[dV,pF]
def Wt(l:List Int):List Int:=(Sw.chunks 4 l).map EZ
theorem Zq{α:Type}{n:Nat}{xs c:List α}(h:c∈Sw.chunks n xs):∃k,c=(xs.drop (k*n)).take n:=by
 simp only[Sw.chunks,fx] at h;obtain⟨k,_,rfl⟩:=h;exact⟨k,rfl⟩
theorem sg.sub{l c:List Int}(h:sg l)(hs:∀x∈c,x∈l):sg c:=fun x u=>h x (hs x u)
theorem CO{l c:List Int}(h:sg l)(hc:c∈Sw.chunks 4 l):sg c/\c.length<=4:=by
 obtain⟨k,rfl⟩:=Zq hc;exact⟨h.sub fun x u=>aDs (aCp u),by simp;omega⟩
theorem CP{ι α:Type}{f:ι->Option α}{g:ι->α}:∀(its:List ι) (acc:List α),(∀i∈its,f i=some (g i))->acc.length+its.length<=1000000->
  er (δ:=Empty) (fun i acc=>(f i).bind fun v=>(Sw.app acc [v]).bind fun a=>some (.next a)) its acc=some (.XT (acc++its.map g))
 | [],acc,_,_=>by simp[er]
 |i::is,acc,h,u=>by
  simp only[er,h i (by simp),cM];rw[WV _ _ (by simp at u ⊢;omega)];simp only[cM];rw[CP is _ (fun j z=>h j (by simp[z])) (by simp at u ⊢;omega)];simp
theorem Ge{α:Type}(n:Nat)(xs:List α):(Sw.chunks n xs).length=(xs.length+n - 1) / n:=by simp[Sw.chunks]
theorem KF(l:List Int)(hu:sg l)(hl:l.length<=1000):sD l=some (Wt l):=by
 unfold sD iS;have u:cm .lss (4:Int) 1=false:=by decide
 have z:small l=some ():=by unfold small;rw[YC (by omega)]
 have A:rz 4=some ():=by decide
 simp only[jp,u,pF,cM,z,A,rg];rw[show Int.toNat 4=4 from rfl];rw[CP (f:=uE) (g:=EZ) _ _ (fun c h=>OG c (CO hu h).1 (by have:=(CO hu h).2;omega)) (by rw[Ge];simp;omega)];simp[Wt]
theorem TX{a b:Nat}:cm .lss (a:Int) (b:Int)=decide (a<b):=QV
theorem Ts(l:List Int):(Wt l).length=(l.length+3) / 4:=by simp[Wt,Ge]
theorem QA(l:List Int):sg (Wt l):=by
 intro x h;simp only[Wt,fx] at h;obtain⟨c,_,rfl⟩:=h;exact RI c
def Zs:Nat->List Int->List (List Int)
 | 0,_=>[]
 |f+1,l=>if l.length<=1 then [] else Wt l::Zs f (Wt l)
theorem Tt{a b:Nat}:cm .gtr (a:Int) (b:Int)=decide (b<a):=by unfold cm;simp
theorem OH{ab:List Int->Option (List Int)}(hab:∀l,sg l->l.length<=1000->ab l=some (Wt l)):
  ∀(n f:Nat) (l:List Int) (acc:List (List Int)),sg l->l.length<=n->n<=1000->n<f->acc.length+n<=2000->
   loop (fun (s:List Int×List (List Int))=>bif (cm .gtr (s.1.length:Int) (1:Int)) then (ab s.1).bind fun v=>(Sw.app s.2 [v]).bind fun a=>some (.next (v,a)) else (some (.done (.XT s.2)):Option (Step (List Int×List (List Int)) (Ex (List (List Int)) (List (List Int)×Option Int))))) f (l,acc)=some (.XT (acc++Zs n l))/\
   loop (fun (s:List Int×List (List Int))=>bif (cm .gtr (s.1.length:Int) (1:Int)) then (ab s.1).bind fun v=>(Sw.app s.2 [v]).bind fun a=>some (.next (v,a)) else (some (.done (.XT s.2)):Option (Step (List Int×List (List Int)) (Ex (List (List Int)) (List (List Int)))))) f (l,acc)=some (.XT (acc++Zs n l)):=by
 intro n
 induction n with
 |zero=>
  intro f l acc _ u _ z _;obtain⟨f,rfl⟩:∃f',f=f'+1:=⟨f - 1,by omega⟩;have:cm .gtr (l.length:Int) 1=false:=by rw[show (1:Int)=((1:Nat):Int) from rfl,Tt];simp;omega
  simp[loop,this,Zs]
 |succ n D=>
  intro f l acc A u F z G;obtain⟨f,rfl⟩:∃f',f=f'+1:=⟨f - 1,by omega⟩;by_cases h:l.length<=1
  ·have:cm .gtr (l.length:Int) 1=false:=(by rw[show (1:Int)=((1:Nat):Int) from rfl,Tt];simp;omega);simp[loop,this,Zs,h]
  ·have:cm .gtr (l.length:Int) 1=true:=(by rw[show (1:Int)=((1:Nat):Int) from rfl,Tt];simp;omega);have E:=Ts l;obtain⟨B,C⟩:=D f (Wt l) (acc++[Wt l]) (QA l) (by omega) (by omega) (by omega) (by simp;omega);simp only[loop,this,YX,hab l A (by omega),cM,WV acc [Wt l] (by simp;omega),Zs,XV h];rw[B,C];simp
def leaf(b:aR):Int:=(KC (0::b):Int)
def leaves(bs:List aR):List Int:=bs.map leaf
theorem Wu(bs:List aR):sg (leaves bs):=by
 intro x h;simp only[leaves,fx] at h;obtain⟨b,_,rfl⟩:=h;have:=CN (0::b);unfold leaf;unfold Rs at this;omega
def tree(bs:List aR):List (List Int):=leaves bs::Zs bs.length (leaves bs)
def VQ(bs:List aR):Prop:=∀b∈bs,b.length=8/\Bytes b
theorem OI{b:aR}(h:b.length=8/\Bytes b):wH b=some (leaf b):=by
 unfold wH;rw[WV _ _ (by simp;omega),cM,Ru _ (by intro x u;simp at u;rcases u with rfl | u;decide;exact h.2 x u) (by simp;omega)];rfl
theorem foldl_map{A B:Type}(f:A->B):∀(l:List A) (i:Nat) (acc:List B),(l.zipIdx i).foldl (fun acc x=>acc++[f x.1]) acc=acc++l.map f
 | [],_,_=>by simp
 |x::l,i,acc=>by simp only[aCk,Z0];rw[foldl_map f l];simp
theorem aOk(bs:List aR)(hb:VQ bs)(hl:bs.length<=1000):Af bs=some (if bs.length<1\/bs.length>32 then ([],some 1) else (tree bs,none)):=by
 unfold Af;rw[show (1:Int)=((1:Nat):Int) from rfl,show (32:Int)=((32:Nat):Int) from rfl,TX,Tt];by_cases h:bs.length<1
 ·simp[h]
 ·by_cases u:bs.length>32
  ·have:(32<bs.length):=u;simp[h,this]
  ·have z:¬32<bs.length:=u;simp only[h,z,H3,pF,cM];rw[show ((0:Int),([]:List Int))=(fun (i:Nat) (r:List Int)=>((i:Int),r)) 0 [] from rfl];rw[I0 (l:=bs) (fun (i:Nat) (r:List Int)=>((i:Int),r)) (fun i r=>r.length=i) [] (fun _ x r=>r++[leaf x]) (fun r=>r) (by unfold fL;omega) rfl]
   ·rw[foldl_map leaf bs 0 []];have A:=(OH (ab:=sD) KF bs.length fL (leaves bs) [leaves bs] (Wu bs) (by simp[leaves]) (by omega) (by unfold fL;omega) (by simp;omega)).1;rw[show []++bs.map leaf=leaves bs from rfl];have B:((1:Nat):Int)=1:=rfl;simp only[B];unfold lp;rw[A];simp[tree]
   ·rintro C x E r rfl D;refine⟨?_,by simp[D]⟩;simp only[pU,YX,nD,cM];rw[OI (hb x (by simp)),cM,WV _ _ (by simp at hl ⊢;omega),cM,show ((1:Nat):Int)=1 from rfl,IP (n:=C.length) (m:=1000000) (by simp at hl;omega) (by omega)]
   ·intro acc _;simp only[dV,pF]
def Goes:List (List Int)->Prop
 | []=>False
 | [l]=>l.length=1
 |l::m::t=>1<l.length/\m=Wt l/\Goes (m::t)
theorem Wv:∀(n:Nat) (l:List Int),1<=l.length->l.length<=n->Goes (l::Zs n l)
 | 0,l,u,z=>by omega
 |n+1,l,u,z=>by
  simp only[Zs];by_cases h:l.length<=1
  ·simp[h,Goes];omega
  ·rw[XV h];have:=Ts l;exact⟨by omega,rfl,Wv n (Wt l) (by omega) (by omega)⟩
theorem CQ:∀(n:Nat) (l:List Int),(Zs n l).length<=n
 | 0,l=>by simp[Zs]
 |n+1,l=>by
  simp only[Zs];split
  ·simp
  ·have:=CQ n (Wt l);simp;omega
theorem Goes.at:∀{t:List (List Int)},Goes t->∀(pre rest:List (List Int)) (l:List Int),t=pre++l::rest->(rest=[]/\l.length=1)\/(∃m r,rest=m::r/\1<l.length/\m=Wt l)
 | [],h,_,_,_,_=>h.elim
 | [l0],h,pre,rest,l,e=>by
  cases pre with
  |nil=>simp at e;obtain⟨rfl,rfl⟩:=e;exact .inl ⟨rfl,h⟩
  |cons p pre=>simp at e
 |l0::m0::t,h,pre,rest,l,e=>by
  cases pre with
  |nil=>simp at e;obtain⟨rfl,rfl⟩:=e;exact .inr ⟨m0,t,rfl,h.1,h.2.1⟩
  |cons p pre=>simp at e;exact Goes.at h.2.2 pre rest l e.2
theorem Goes.ne{t:List (List Int)}(h:Goes t):t≠ []:=by rintro rfl;exact h
theorem QB:∀(n:Nat) (l:List Int) (m:Nat),l.length<=m->∀x∈Zs n l,sg x/\x.length<=m
 | 0,l,m,h,x,u=>by simp[Zs] at u
 |n+1,l,m,h,x,u=>by
  simp only[Zs] at u;split at u
  ·simp at u
  ·have z:=Ts l;rcases B1.1 u with rfl | u
   ·exact⟨QA l,by omega⟩
   ·exact QB n (Wt l) m (by omega) x u
theorem uj(bs:List aR)(h:bs.length<=32):∀l∈tree bs,sg l/\l.length<=32:=by
 intro l u;rcases B1.1 u with rfl | u
 ·exact⟨Wu bs,by simp[leaves];omega⟩
 ·exact QB bs.length (leaves bs) 32 (by simp[leaves];omega) l u
theorem ui(bs:List aR):(tree bs).length<=bs.length+1:=by
 have:=CQ bs.length (leaves bs);simp[tree];omega
theorem qh(bs:List aR)(h:1<=bs.length):Goes (tree bs):=Wv _ _ (by simp[leaves];omega) (by simp[leaves])
end Go.og
namespace Go.bEf
open Go.Pl
open Go Go.Sw Go.Mo
end Go.bEf
namespace Go.Mo
open Go Go.Sw
structure PS where
 n:Int
 fn:Int
 YH:Int
 XX:Int
 blocks:(List aR)
 WX:(Int×(List (Int×aR))×(List (Int×(List (Int×aR))))×Bool)
 XS:(List (Int×(List aR)))
 WT:Int
 WU:(Int×Int×(List (Int×(List Int)×(List aR))))
 sent:Int
 safe:Int
 WW:(List Int)
 on:Int
 YL:Int
 XI:Int
 first:Int
 receiver:(Int×Int)
 XH:(List (Bool×Bool×(List Int)))
 y7:Int
 fd:((List aR)×(List (Int×aR))×Int)
 o5:Int
 od:((List aR)×(List (Int×aR))×Int)
def lO(a1:Int)(a2:aR)(s:PS):Option ((Option Int)×PS):=(eY a1 a2 s.n s.fn s.YH s.XX s.blocks s.WX s.XS s.WT s.WU s.sent s.safe s.WW s.on s.YL s.XI s.first s.receiver s.XH s.y7 s.fd s.o5 s.od).bind fun v=>some (v.1,{ s with blocks:=v.2.1,WX:=v.2.2 })
def oY(a1:Int)(s:PS):Option (aR×(Option Int)×PS):=(gB a1 s.n s.fn s.YH s.XX s.blocks s.WX s.XS s.WT s.WU s.sent s.safe s.WW s.on s.YL s.XI s.first s.receiver s.XH s.y7 s.fd s.o5 s.od).bind fun v=>some (v.1,v.2,s)
def qU(s:PS):Option ((Option Int)×PS):=(fX s.n s.fn s.YH s.XX s.blocks s.WX s.XS s.WT s.WU s.sent s.safe s.WW s.on s.YL s.XI s.first s.receiver s.XH s.y7 s.fd s.o5 s.od).bind fun v=>some (v.1,{ s with YH:=v.2.1,WX:=v.2.2.1,XS:=v.2.2.2.1,y7:=v.2.2.2.2.1,fd:=v.2.2.2.2.2 })
def fU(s:PS):Option ((Option Int)×PS):=(dI s.n s.fn s.YH s.XX s.blocks s.WX s.XS s.WT s.WU s.sent s.safe s.WW s.on s.YL s.XI s.first s.receiver s.XH s.y7 s.fd s.o5 s.od).bind fun v=>some (v.1,{ s with WU:=v.2.1,sent:=v.2.2.1,WW:=v.2.2.2.1,XH:=v.2.2.2.2 })
def jT(a1:Int)(s:PS):Option (Int×Bool×PS):=(cD a1 s.n s.fn s.YH s.XX s.blocks s.WX s.XS s.WT s.WU s.sent s.safe s.WW s.on s.YL s.XI s.first s.receiver s.XH s.y7 s.fd s.o5 s.od).bind fun v=>some (v.1,v.2,s)
def sH(a1:(Int×(List Int)×(List aR)))(s:PS):Option ((Option Int)×PS):=(fI a1 s.n s.fn s.YH s.XX s.blocks s.WX s.XS s.WT s.WU s.sent s.safe s.WW s.on s.YL s.XI s.first s.receiver s.XH s.y7 s.fd s.o5 s.od).bind fun v=>some (v.1,{ s with YL:=v.2.1,o5:=v.2.2.1,od:=v.2.2.2 })
def dR(a1:(List Int))(s:PS):Option ((Option Int)×PS):=(cI a1 s.n s.fn s.YH s.XX s.blocks s.WX s.XS s.WT s.WU s.sent s.safe s.WW s.on s.YL s.XI s.first s.receiver s.XH s.y7 s.fd s.o5 s.od).bind fun v=>some (v.1,{ s with YL:=v.2.1,first:=v.2.2.1,receiver:=v.2.2.2.1,XH:=v.2.2.2.2.1,o5:=v.2.2.2.2.2.1,od:=v.2.2.2.2.2.2 })
def dW(a1:(List Int))(s:PS):Option ((Option Int)×PS):=(cP a1 s.n s.fn s.YH s.XX s.blocks s.WX s.XS s.WT s.WU s.sent s.safe s.WW s.on s.YL s.XI s.first s.receiver s.XH s.y7 s.fd s.o5 s.od).bind fun v=>some (v.1,{ s with WX:=v.2.1,WT:=v.2.2.1,WU:=v.2.2.2.1,sent:=v.2.2.2.2.1,safe:=v.2.2.2.2.2.1,WW:=v.2.2.2.2.2.2 })
def iO(a1:(Bool×Bool×(List Int)))(s:PS):Option ((Option Int)×PS):=(dY a1 s.n s.fn s.YH s.XX s.blocks s.WX s.XS s.WT s.WU s.sent s.safe s.WW s.on s.YL s.XI s.first s.receiver s.XH s.y7 s.fd s.o5 s.od).bind fun v=>some (v.1,{ s with WX:=v.2.1,WT:=v.2.2.1,WU:=v.2.2.2.1,sent:=v.2.2.2.2.1,safe:=v.2.2.2.2.2.1,WW:=v.2.2.2.2.2.2.1,YL:=v.2.2.2.2.2.2.2.1,first:=v.2.2.2.2.2.2.2.2.1,receiver:=v.2.2.2.2.2.2.2.2.2.1,XH:=v.2.2.2.2.2.2.2.2.2.2.1,o5:=v.2.2.2.2.2.2.2.2.2.2.2.1,od:=v.2.2.2.2.2.2.2.2.2.2.2.2 })
def cW(a1:Int)(s:PS):Option ((Option Int)×PS):=(cT a1 s.n s.fn s.YH s.XX s.blocks s.WX s.XS s.WT s.WU s.sent s.safe s.WW s.on s.YL s.XI s.first s.receiver s.XH s.y7 s.fd s.o5 s.od).bind fun v=>some (v.1,{ s with WX:=v.2.1,WT:=v.2.2.1,WU:=v.2.2.2.1,sent:=v.2.2.2.2.1,safe:=v.2.2.2.2.2.1,WW:=v.2.2.2.2.2.2.1,YL:=v.2.2.2.2.2.2.2.1,first:=v.2.2.2.2.2.2.2.2.1,receiver:=v.2.2.2.2.2.2.2.2.2.1,XH:=v.2.2.2.2.2.2.2.2.2.2.1,o5:=v.2.2.2.2.2.2.2.2.2.2.2.1,od:=v.2.2.2.2.2.2.2.2.2.2.2.2 })
def rK(a1:Int)(s:PS):Option ((Option Int)×PS):=(gC a1 s.n s.fn s.YH s.XX s.blocks s.WX s.XS s.WT s.WU s.sent s.safe s.WW s.on s.YL s.XI s.first s.receiver s.XH s.y7 s.fd s.o5 s.od).bind fun v=>some (v.1,{ s with XH:=v.2 })
def lQ(a1:Int)(s:PS):Option ((Option Int)×PS):=(eS a1 s.n s.fn s.YH s.XX s.blocks s.WX s.XS s.WT s.WU s.sent s.safe s.WW s.on s.YL s.XI s.first s.receiver s.XH s.y7 s.fd s.o5 s.od).bind fun v=>some (v.1,{ s with XH:=v.2 })
def lR(a1:(Int×Int×Int×aR))(s:PS):Option ((Option Int)×PS):=(eT a1 s.n s.fn s.YH s.XX s.blocks s.WX s.XS s.WT s.WU s.sent s.safe s.WW s.on s.YL s.XI s.first s.receiver s.XH s.y7 s.fd s.o5 s.od).bind fun v=>some (v.1,{ s with XH:=v.2 })
def rL(a1:(Int×aR×Int×Int×Int×(List aR)))(s:PS):Option ((Int×aR×Int×Int×Int×(List aR))×(Option Int)×PS):=(dZ a1 s.n s.fn s.YH s.XX s.blocks s.WX s.XS s.WT s.WU s.sent s.safe s.WW s.on s.YL s.XI s.first s.receiver s.XH s.y7 s.fd s.o5 s.od).bind fun v=>some (v.1,v.2,s)
def nF(a1:(Int×Int×Int×aR))(s:PS):Option ((Int×aR×Int×Int×Int×(List aR))×(Option Int)×PS):=(iC a1 s.n s.fn s.YH s.XX s.blocks s.WX s.XS s.WT s.WU s.sent s.safe s.WW s.on s.YL s.XI s.first s.receiver s.XH s.y7 s.fd s.o5 s.od).bind fun v=>some (v.1,v.2.1,{ s with n:=v.2.2.1,fn:=v.2.2.2.1,YH:=v.2.2.2.2.1,XX:=v.2.2.2.2.2.1,blocks:=v.2.2.2.2.2.2.1,WX:=v.2.2.2.2.2.2.2.1,XS:=v.2.2.2.2.2.2.2.2.1,WT:=v.2.2.2.2.2.2.2.2.2.1,WU:=v.2.2.2.2.2.2.2.2.2.2.1,sent:=v.2.2.2.2.2.2.2.2.2.2.2.1,safe:=v.2.2.2.2.2.2.2.2.2.2.2.2.1,WW:=v.2.2.2.2.2.2.2.2.2.2.2.2.2.1,on:=v.2.2.2.2.2.2.2.2.2.2.2.2.2.2.1,YL:=v.2.2.2.2.2.2.2.2.2.2.2.2.2.2.2.1,XI:=v.2.2.2.2.2.2.2.2.2.2.2.2.2.2.2.2.1,first:=v.2.2.2.2.2.2.2.2.2.2.2.2.2.2.2.2.2.1,receiver:=v.2.2.2.2.2.2.2.2.2.2.2.2.2.2.2.2.2.2.1,XH:=v.2.2.2.2.2.2.2.2.2.2.2.2.2.2.2.2.2.2.2.1,y7:=v.2.2.2.2.2.2.2.2.2.2.2.2.2.2.2.2.2.2.2.2.1,fd:=v.2.2.2.2.2.2.2.2.2.2.2.2.2.2.2.2.2.2.2.2.2.1,o5:=v.2.2.2.2.2.2.2.2.2.2.2.2.2.2.2.2.2.2.2.2.2.2.1,od:=v.2.2.2.2.2.2.2.2.2.2.2.2.2.2.2.2.2.2.2.2.2.2.2 })
end Go.Mo
namespace Go.YA
open Go Go.Sw Go.Mo Go.Pl
theorem Zt{a b c:Nat}(h:a ^^^ c=b ^^^ c):a=b:=by
 have:=congrArg (·^^^ c) h;simpa[Nat.xor_assoc] using this
theorem RJ{a b c:Nat}(h:c ^^^ a=c ^^^ b):a=b:=by
 rw[Nat.xor_comm c a,Nat.xor_comm c b] at h;exact Zt h
theorem KG{a b:Nat}(ha:a<4294967296)(hb:b<4294967296)(h:Zm a=Zm b):a=b:=by
 have top:∀x:Nat,x<2147483648->2147483648<=x ^^^ To:=by
  intro x B;have z:(x ^^^ To) / 2 ^ 31 % 2=(x / 2 ^ 31+To / 2 ^ 31) % 2:=NK x To 31;have u:x / 2 ^ 31=0:=Nat.div_eq_of_lt (by simpa using B);have A:To / 2 ^ 31=1:=by decide
  rw[u,A] at z;omega
 unfold Zm at h;by_cases z:a % 2=1
 ·by_cases u:b % 2=1
  ·rw[YC z,YC u] at h;have:=Zt h;omega
  ·rw[YC z,XV u] at h;have:=top (a / 2) (by omega);omega
 ·by_cases u:b % 2=1
  ·rw[XV z,YC u] at h;have:=top (b / 2) (by omega);omega
  ·rw[XV z,XV u] at h;omega
theorem Oh:∀(n:Nat) {a b:Nat},a<4294967296->b<4294967296->Pz n a=Pz n b->a=b
 | 0,_,_,_,_,h=>h
 |n+1,_,_,u,z,h=>Oh n u z (KG (Mf u) (Mf z) h)
theorem UT{r b:Nat}(hr:r<4294967296)(hb:b<256):r ^^^ b<4294967296:=by
 have:r ^^^ b<2 ^ 32:=aCd (by simpa using hr) (by omega);simpa using this
theorem FA{r r' b:Nat}(hr:r<4294967296)(mn:r'<4294967296)(hb:b<256)(h:Aj r b=Aj r' b):r=r':=
 Zt (Oh 8 (UT hr hb) (UT mn hb) h)
theorem FB{r b b':Nat}(hr:r<4294967296)(hb:b<256)(ZI:b'<256)(h:Aj r b=Aj r b'):b=b':=
 RJ (Oh 8 (UT hr hb) (UT hr ZI) h)
theorem Ww:∀(l:List Nat) {r r':Nat},r<4294967296->r'<4294967296->(∀b∈l,b<256)->l.foldl Aj r=l.foldl Aj r'->r=r'
 | [],_,_,_,_,_,h=>h
 |b::l,_,_,z,A,u,h=>FA z A (u b (by simp)) (Ww l (Bx z (u b (by simp))) (Bx A (u b (by simp))) (fun c B=>u c (by simp[B])) h)
theorem OJ{l:List Nat}{k v:Nat}(hl:∀b∈l,b<256)(hk:k<l.length)(hv:v<256)(j5:l[k]≠v):Ak (l.set k v)≠Ak l:=by
 intro h;have C:l=l.take k++l[k]::l.drop (k+1):=by rw[<-aCy hk,db]
 have D:l.set k v=l.take k++v::l.drop (k+1):=by rw[aDx,YC hk]
 unfold Ak at h;rw[D] at h;have A:(l.take k++v::l.drop (k+1)).foldl Aj 4294967295=(l.take k++l[k]::l.drop (k+1)).foldl Aj 4294967295:=by rw[<-C];exact h
 rw[aC6,aC6,Z0,Z0] at A;have u:=Ik (l.take k) 4294967295 (by decide) (fun b z=>hl b (aCp z));have B:l[k]<256:=hl _ (il hk);have E:=Ww (l.drop (k+1)) (Bx u hv) (Bx u B) (fun b z=>hl b (aDs z)) A;exact j5 (FB u hv B E).symm
theorem KH{a b:Nat}(ha:a<4294967296)(hb:b<4294967296)(h:D8 a=D8 b):a=b:=by
 simp only[D8,aC0,aEi] at h;omega
theorem CR{l:List Int}(h:Bytes l):Ak (nat l)<4294967296:=Ik _ _ (by decide) (Il h)
theorem L9{f:fM}(g:Good f){k:Nat}{v:Int}(hk:k<(bM f).length)(hv:0<=v/\v<=255)(j5:(bM f)[k]≠v)(hb:Bytes ((bM f).set k v)):fB ((bM f).set k v)=none:=by
 cases hf:fB ((bM f).set k v) with
 |none=>rfl
 |some x=>
  exfalso;obtain⟨N,_,h⟩:=Hb hb hf;have E:(body x).length=(body f).length:=by
   have:=congrArg List.length h;simp[bM,D8] at this;omega
  have A:=(rJ g).1;have H:=(rJ N).1;have O:=CR A;have P:=CR H;by_cases u:k<(body f).length
  ·have e:(bM f).set k v=(body f).set k v++D8 (4294967295 - Ak (nat (body f))):=(by unfold bM;rw[List.set_append_left _ _ u]);rw[e] at h;unfold bM at h;obtain⟨D,z⟩:=List.append_inj h (by simp[E]);have Q:=KH (by omega) (by omega) z;have B:Ak (nat (body x))=Ak (nat (body f)):=(by omega);rw[D] at B;have I:nat ((body f).set k v)=(nat (body f)).set k v.toNat:=(by unfold nat;rw[List.map_set]);rw[I] at B;have K:k<(nat (body f)).length:=(by simpa[nat] using u);refine OJ (Il A) K (by omega) ?_ B;intro M;have L:(nat (body f))[k]=((body f)[k]).toNat:=(by simp[nat]);have C:(bM f)[k]=(body f)[k]:=(by simp only[bM];rw[aC8 u]);have:=A _ (il u);rw[L] at M;rw[C] at j5;omega
  ·have e:(bM f).set k v=body f++(D8 (4294967295 - Ak (nat (body f)))).set (k - (body f).length) v:=(by unfold bM;rw[List.set_append_right _ _ (by omega)]);rw[e] at h;unfold bM at h;obtain⟨D,z⟩:=List.append_inj h E;rw[D] at z;have F:k - (body f).length<(D8 (4294967295 - Ak (nat (body f)))).length:=by
    have:(bM f).length=(body f).length+(D8 (4294967295 - Ak (nat (body f)))).length:=(by simp[bM]);omega
   have C:(bM f)[k]=(D8 (4294967295 - Ak (nat (body f))))[k - (body f).length]:=(by simp only[bM];rw[List.getElem_append_right (by omega)]);have G:(D8 (4294967295 - Ak (nat (body f))))[k - (body f).length]? =some v:=(by rw[z,aB0 F]);rw[J0 F,E4] at G;exact j5 (by rw[C,G])
theorem aWm{a b:Int}(ha:0<=a/\a<=255)(hb:0<=b/\b<=255):ar .xor .u8 a b=((a.toNat ^^^ b.toNat:Nat):Int):=by
 have u:((a.toNat:Nat):Int)=a:=by omega
 have z:((b.toNat:Nat):Int)=b:=by omega
 have h:a.toNat ^^^ b.toNat<2 ^ 8:=aCd (by omega) (by omega);show IntKind.wrap .u8 ((BitVec.ofInt 8 a ^^^ BitVec.ofInt 8 b).toNat:Int)=_;rw[<-u,<-z];simp only[sF,aEu,aB8,A5];rw[V8 (a:=a.toNat) (by omega),V8 (a:=b.toNat) (by omega),CJ (by omega)]
def Hc(s:uV):Option fM->uV
 |none=>s
 |some f=>if f.1=0/\f.2.2=[]/\f.2.1.length=2/\f.2.1.getD 0 0=s.1/\s.2.1<f.2.1.getD 1 0/\f.2.1.getD 1 0 - s.2.1<=min (s.2.2.length:Int) 4 then (s.1,f.2.1.getD 1 0,s.2.2.drop (f.2.1.getD 1 0 - s.2.1).toNat) else s
theorem Am(s:uV)(b:List Int)(hb:Bytes b)(hl:b.length<=2000)(h0:jO s=0):sE s b=some (Hc s (fB b),none):=by
 obtain⟨X,q2,S,T⟩:=Lc h0;unfold sE;rw[o8,YC h0,cM,Wp _ S T,oX b hb (by omega)];simp only[p7,pF,cM];cases hf:fB b with
 |none=>simp[Hc]
 |some f=>
  obtain⟨g,_,_⟩:=Hb hb hf;simp only[p7,pF,cn,cg,Hc];by_cases u:¬(f.1=0)
  ·simp[u]
  have u:=aC7.1 u;by_cases z:¬((f.2.1.length:Int)=2)
  ·have F:f.2.1.length≠2:=fun h=>z (by omega);simp[u,z,F]
  have z:=aC7.1 z;by_cases U:(f.2.2.length:Int)>0
  ·have C:f.2.2≠ []:=sb.1 (by omega);have G:0<f.2.2.length:=(by omega);simp[u,z,G,C]
  have C:f.2.2=[]:=kt (by omega);obtain⟨n0,n1,E⟩:∃n0 n1,f.2.1=[n0,n1]:=by
   match hm:f.2.1,z with
   | [a,c],_=>exact⟨a,c,rfl⟩
   | [],c=>simp at c
   | [_],c=>simp at c
   |_::_::_::_,c=>simp at c;omega
  have H:Sw.idx [n0,n1] (0:Int)=some n0:=by simp[Sw.idx]
  have I:Sw.idx [n0,n1] (1:Int)=some n1:=by simp[Sw.idx]
  have V:0<=n1/\n1<=2147483647:=g.num n1 (by rw[E];simp);have K:((2:Nat):Int)=2:=rfl;have L:(([]:List aR).length:Int)=0:=rfl;have M:([n0,n1]:List Int).getD 0 0=n0:=rfl;have N:([n0,n1]:List Int).getD 1 0=n1:=rfl;have O:([n0,n1]:List Int).length=2:=rfl;simp only[u,C,E,H,I,K,L,M,N,O,ne_eq,aE0,H3,pF,cM,aEa];rw[show decide ((0:Int)>0)=false from rfl];simp only[pF,cM];by_cases A:¬(n0=s.1)
  ·simp[A]
  have A:=aC7.1 A;have P:ar .sub .i64 n1 s.2.1=n1 - s.2.1:=T5 (by omega);simp only[A,aE0,H3,pF,P,cle,jp,aEa];by_cases B:s.2.1<n1/\n1 - s.2.1<=min (s.2.2.length:Int) 4
  ·have Q:n1 - s.2.1=((n1 - s.2.1).toNat:Int):=(by omega);rw[D5 (show n1 - s.2.1>0 by omega),YX,D5 B.2,cM,YX,YC B];rw[Q,P5 _ _ (by omega),cM,A5]
  ·have R:(bif decide (n1 - s.2.1>0) then some (decide (n1 - s.2.1<=min (s.2.2.length:Int) 4)) else some false)=some false:=by
    by_cases D:n1 - s.2.1>0
    ·rw[D5 D,n9 (fun h=>B ⟨by omega,h⟩)];rfl
    ·rw[n9 D];rfl
   rw[R,cM,pF,XV B]
def Io(r:Int×Int):Option fM->(Int×Int)×fM×Bool×(Bool×List Int)
 |none=>(r,(0,[],[]),false,(true,[]))
 |some f=>if f.1=1/\3<=f.2.1.length/\f.2.1.getD 0 0=r.1/\f.2.1.getD 2 0<=15 then
   (if f.2.1.getD 1 0=r.2/\r.2<2147483647 then ((r.1,r.2+1),(f.2.1.getD 2 0,f.2.1.drop 3,f.2.2),true,(false,bM ((0:Int),[r.1,r.2+1],([]:List aR))))
   else (r,(0,[],[]),false,(false,bM ((0:Int),[r.1,r.2],([]:List aR)))))
  else (r,(0,[],[]),false,(true,[]))
theorem Oi(r:Int×Int)(b:List Int)(hb:Bytes b)(hl:b.length<=2000)(h1:0<=r.1/\r.1<=2147483647)(h2:0<=r.2/\r.2<=2147483647):
  oJ r b=some ((Io r (fB b)).1,(Io r (fB b)).2.1,(Io r (fB b)).2.2.1,(Io r (fB b)).2.2.2,none):=by
 unfold oJ;rw[A1,A4.2 h1,A4.2 h2,oX b hb (by omega)];simp only[Bool.or_self,yd,lu,pF,cM];cases hf:fB b with
 |none=>simp[Io]
 |some f=>
  obtain⟨g,_,_⟩:=Hb hb hf;simp only[p7,pF,cn,cg,cl,Io];by_cases u:¬(f.1=1)
  ·simp[u]
  have u:=aC7.1 u;by_cases A:(f.2.1.length:Int)<3
  ·have G:¬3<=f.2.1.length:=(by omega);simp[u,A,G]
  obtain⟨n0,n1,n2,ns,F⟩:∃n0 n1 n2 ns,f.2.1=n0::n1::n2::ns:=by
   match hm:f.2.1,A with
   |a::c::d::e,_=>exact⟨a,c,d,e,rfl⟩
   | [],c=>simp at c
   | [_],c=>simp at c
   | [_,_],c=>simp at c
  have H:Sw.idx (n0::n1::n2::ns) (0:Int)=some n0:=by simp[Sw.idx]
  have I:Sw.idx (n0::n1::n2::ns) (1:Int)=some n1:=by simp[Sw.idx]
  have K:Sw.idx (n0::n1::n2::ns) (2:Int)=some n2:=by simp[Sw.idx]
  have L:Sw.sub (n0::n1::n2::ns) (3:Int) ((n0::n1::n2::ns).length:Int)=some ns:=P5 (n0::n1::n2::ns) 3 (by simp);have M:(n0::n1::n2::ns).getD 0 0=n0:=rfl;have N:(n0::n1::n2::ns).getD 1 0=n1:=rfl;have O:(n0::n1::n2::ns).getD 2 0=n2:=rfl;have P:(n0::n1::n2::ns).drop 3=ns:=rfl;have Q:3<=(n0::n1::n2::ns).length:=by simp
  rw[F] at A;simp only[u,A,F,H,I,K,L,M,N,O,P,Q,ne_eq,aE0,H3,pF,cM,aEa];by_cases z:¬(n0=r.1)
  ·simp[z]
  have z:=aC7.1 z;by_cases E:n2>15
  ·have:¬n2<=15:=(by omega);simp[z,E,this]
  have R:n2<=15:=by omega
  simp only[z,E,R,aE0,H3,pF,cM,ce,jp,aEa,r7];by_cases B:n1=r.2/\r.2<2147483647
  ·have S:ar .add .i64 r.2 1=r.2+1:=p5 (by omega);obtain⟨e,D⟩:=R7 h1 (c:=r.2+1) (by omega);simp only[B.1,B.2,fw,YX,cM,S,Fk D e,Og,and_self,r7]
  ·obtain⟨e,D⟩:=R7 h1 h2;have T:(bif decide (n1=r.2) then some (decide (r.2<2147483647)) else some false)=some false:=by
    by_cases C:n1=r.2
    ·have:¬r.2<2147483647:=fun h=>B ⟨C,h⟩;simp[C,this]
    ·simp[C]
   rw[T,XV B];simp only[pF,cM,Fk D e,Og]
theorem Jy{S q:Int}(h0:jO (S,q,[])=0):pL (S,q,[])=some ([],none):=by
 have h:Uk (S,q,[])=[]:=by simp[Uk]
 have:=(CM (S,q,[]) h0 (fun f u=>by simp at u)).1;rw[this,h];rfl
theorem Oj{S q:Int}{m:fM}(h0:jO (S,q,[m])=0)(hq:q<=2147483647)(hm:dQ m=0)(hb:∀b∈m.2.2,b.length=8/\Bytes b):
  pL (S,q,[m])=some ([bM (XW (S,q,[m]) 0 m)],none):=by
 have u:Uk (S,q,[m])=[m]:=by simp[Uk]
 have:=(CM (S,q,[m]) h0 (fun f h=>by simp at h;subst h;exact⟨hm,hb⟩)).1;rw[this,u];have z:Rr (S,q,[m]) 0 m []=some [bM (XW (S,q,[m]) 0 m)]:=by
  unfold Rr;rw[XV (by simp;omega)];rfl
 simp[Cj,z]
theorem nG{S q:Int}{l:List fM}(hS:0<=S/\S<=2147483647)(hq:0<=q/\q<=2147483647)(hl:l.length<=64)(h:∀f∈l,dQ f=0):jO (S,q,l)=0:=by
 unfold jO;rw[A4.2 hS,A4.2 hq];simp only[Bool.or_self,V6,r5];rw[XV (by omega),Zp h];rfl
theorem Jz{S q:Int}{m:fM}(hS:0<=S/\S<=2147483647)(hq:0<=q/\q<2147483647)(hm:dQ m=0):uR (S,q,[]) m=some ((S,q,[m]),none):=by
 have z:jO (S,q,[])=0:=nG hS ⟨hq.1,by omega⟩ (by simp) (fun f h=>by simp at h);unfold uR;rw[o8,YC z,cM];simp only[p7,pF];rw[CL,YC hm,cM];have A:ar .add .i64 q (([]:List fM).length:Int)=q:=by rw[p5 (by simp;omega)];simp
 have u:=Wo hm;have B:nB m=some m:=by
  unfold nB lK aP;rw[WV _ _ (by have:=u.1;simp;omega),WV _ _ (by have:=u.2;simp;omega)];rfl
 simp only[p7,pF,A,ce,O6];rw[show decide ((([]:List fM).length:Int)=64)=false from rfl,n9 (show¬(q>=2147483647) by omega)];simp only[pF,cM];rw[Wp [] (by simp) (fun f h=>by simp at h)];simp only[cM,B,Sw.app,ak,H6,Z1];rfl
end Go.YA
namespace Go.YO
open Go Go.Sw Go.Mo Go.Pl Go.ZZ
variable {d:mG}{blocks:List aR}{a b n:Nat}
theorem OL(h:oR d blocks a b)(h0:1<=blocks.length)(h1:blocks.length<=32)(ha:a<=2147483647)(hb:b+1<=2147483647):
  ∃d',dA (blocks.length:Int) d [] (a:Int) (ar .add .i64 (b:Int) (1:Int))=some (none,(blocks.length:Int),d')/\oR d' blocks a (b+1):=by
 rw[C2 (by omega)];have A:Vt blocks.length [] (a:Int) ((b+1:Nat):Int)=0:=by
  unfold Vt;rw[XV (by simp),XV (by omega)];rfl
 obtain⟨d',x',y',u,z,_,_,_,e,s⟩:=zA h h0 h1 [] _ _ A;have u:a=x':=by omega
 have z:b+1=y':=by omega
 subst u z;exact⟨d',e,s⟩
theorem Wx(h:oR d blocks a b)(h0:1<=blocks.length)(h1:blocks.length<=32)(ha:a<=2147483647)(hb:b+1<=2147483647):∃d',oR d' blocks a (b+1)/\
  (∀b0 b1 b2 b3 b4 b5 b6 b7 b8 b9 YG YF YN YB YK YE YJ XZ,jI b0 b1 b2 b3 b4 b5 b6 b7 b8 b9 YG YF YN YB YK YE YJ XZ (blocks.length:Int) d=some (none,(a:Int),((b+1:Nat):Int),(blocks.length:Int),d'))/\
  (∀b0 b1 b2 b3 b4 b5 b6 b7 b8 b9 YG YF YN YB YK YE YJ XZ YW YV,gI b0 b1 b2 b3 b4 b5 b6 b7 b8 b9 YG YF YN YB YK YE YJ XZ YW YV (blocks.length:Int) d=some (none,(a:Int),((b+1:Nat):Int),(blocks.length:Int),d'))/\
  (∀b0 b1 b2 b3 b4 b5 b6 b7 b8 b9 YG YF YN YB YK YE YJ XZ YW YV,jA b0 b1 b2 b3 b4 b5 b6 b7 b8 b9 YG YF YN YB YK YE YJ XZ YW YV (blocks.length:Int) d=some (none,(a:Int),((b+1:Nat):Int),(blocks.length:Int),d')):=by
 obtain⟨d',e,s⟩:=OL h h0 h1 ha hb;have z:=Zi h ha (by omega);have u:ar .add .i64 (b:Int) (1:Int)=((b+1:Nat):Int):=C2 (by omega);rw[u] at e;refine⟨d',s,?_,?_,?_⟩<;>intros
 ·unfold jI;rw[z,cM];simp only[p7,pF,u,e,cM]
 ·unfold gI;rw[z,cM];simp only[p7,pF,u,e,cM]
 ·unfold jA;rw[z,cM];simp only[p7,pF,u,e,cM]
theorem Wy(h:oR d blocks a b)(h0:1<=blocks.length)(h1:blocks.length<=32):iF (blocks.length:Int) d (blocks.length:Int)=some (some ((blocks.length:Int),d),none,(blocks.length:Int),d):=by
 unfold iF;rw[NR h,cM,Rh h h0 h1];rfl
theorem KI(h0:1<=n)(h1:n<=32):jG (n:Int)=some (some ((n:Int),fresh n),none):=by
 unfold jG;rw[EO h0 h1,cM];have:=Rh (Ny h1) (by simpa using h0) (by simpa using h1);simp only[sc] at this;simp only[p7,pF,this,cM];rfl
def pY(XS:List (Int×List aR))(num:Int)(blocks:List aR):List (Int×List aR):=Gt ((Hr XS num blocks).getD []) (num - 5)
theorem Ld(XS:List (Int×List aR))(num:Nat)(hl:blocks.length<=1000)(hn:num<=2147483647)(hp:(Hr XS (num:Int) blocks).isSome=true):
  (∀b0 b1 b3 b5 b7 b8 b9 YG YF YN YB YK YE YJ XZ YW YV,fS b0 b1 (num:Int) b3 blocks b5 XS b7 b8 b9 YG YF YN YB YK YE YJ XZ YW YV=some (pY XS num blocks))/\
  (∀b0 b1 b3 b5 b7 b8 b9 YG YF YN YB YK YE YJ XZ YW YV YU YT,eR b0 b1 (num:Int) b3 blocks b5 XS b7 b8 b9 YG YF YN YB YK YE YJ XZ YW YV YU YT=some (pY XS num blocks)):=by
 obtain⟨q,B⟩:=Option.isSome_iff_exists.1 hp;have h:ar .sub .i64 (num:Int) 4=(num:Int) - 4:=T5 (by omega);have u:ar .sub .i64 ((num:Int) - 4) 1=(num:Int) - 4 - 1:=T5 (by omega);have z:(num:Int) - 4 - 1=(num:Int) - 5:=by omega
 have A:aP blocks=some blocks:=by
  unfold aP;rw[WV _ _ (by simp;omega)];rfl
 refine⟨?_,?_⟩<;>intros
 ·unfold fS pY;rw[A,cM,B,cM,h,u,z];rfl
 ·unfold eR pY;rw[A,cM,B,cM,h,u,z];rfl
end Go.YO
namespace Go.YO
open Go Go.Sw Go.Mo Go.Pl Go.ZZ
variable {d:mG}{blocks:List aR}{a b n:Nat}
theorem Dw(num:Nat)(blocks:List aR):pY [] num blocks=[((num:Int),blocks)]:=by
 unfold pY Hr fR Gt;simp only[aCe,Z1,L4,aD2,kp];rw[XV (by omega)];rfl
theorem Ip(h:oR d blocks a b)(h0:1<=blocks.length)(h1:blocks.length<=32)(ha:a<=2147483647)(hb:b+1<=2147483647):∃d',oR d' blocks a (b+1)/\
  (∀b1 b2 b3 b4 b5 b6 b7 b8 b9 YG YF YN YB YK YE YJ XZ,fG (blocks.length:Int) b1 b2 b3 b4 b5 b6 b7 b8 b9 YG YF YN YB YK YE YJ XZ (blocks.length:Int) d=
   some (none,(blocks.length:Int),(a:Int),((b+1:Nat):Int),blocks,((a:Int),[],[],true),[((a:Int),blocks)],-1,(0,0,[]),0,0,[],(blocks.length:Int),d'))/\
  (∀b1 b2 b3 b4 b5 b6 b7 b8 b9 YG YF YN YB YK YE YJ XZ YW YV YU YT,gF (blocks.length:Int) b1 b2 b3 b4 b5 b6 b7 b8 b9 YG YF YN YB YK YE YJ XZ YW YV YU YT (blocks.length:Int) d=
   some (none,(blocks.length:Int),(a:Int),((b+1:Nat):Int),blocks,((a:Int),[],[],true),[((a:Int),blocks)],-1,(0,0,[]),0,0,[],(blocks.length:Int),d')):=by
 obtain⟨d',s,A,_,B⟩:=Wx h h0 h1 ha hb;have u:=xZ s;have z:(Hr ([]:List (Int×List aR)) (a:Int) blocks).isSome=true:=rfl;obtain⟨C,D⟩:=Ld (blocks:=blocks) [] a (by omega) ha z;refine⟨d',s,?_,?_⟩<;>intros
 ·unfold fG;rw[A,cM];simp only[p7,pF];rw[u,cM];simp only[];rw[C,cM,Dw]
 ·unfold gF;rw[B,cM];simp only[p7,pF];rw[u,cM];simp only[];rw[D,cM,Dw]
theorem Iq(h:oR d blocks a b)(h0:1<=blocks.length)(h1:blocks.length<=32)(ha:a<=2147483647)(hb:b+1<=2147483647):∃d',oR d' blocks a (b+1)/\
  (∀b1 b2 b3 b4 b5 b6 b7 b8 b9 YG YF YN YB YK YE YJ XZ YW YV,gP (blocks.length:Int) b1 b2 b3 b4 b5 b6 b7 b8 b9 YG YF YN YB YK YE YJ XZ YW YV (blocks.length:Int) d=
   some (none,(blocks.length:Int),(a:Int),((b+1:Nat):Int),-1,(0,0),(blocks.length:Int),d'))/\
  (∀b1 b2 b3 b4 b5 b6 b7 b8 b9 YG YF YN YB YK YE YJ XZ YW YV YU YT,gG (blocks.length:Int) b1 b2 b3 b4 b5 b6 b7 b8 b9 YG YF YN YB YK YE YJ XZ YW YV YU YT (blocks.length:Int) d=
   some (none,(blocks.length:Int),(a:Int),((b+1:Nat):Int),-1,(0,0),(blocks.length:Int),d')):=by
 obtain⟨d',s,_,u,_⟩:=Wx h h0 h1 ha hb;refine⟨d',s,?_,?_⟩<;>intros
 ·unfold gP;rw[u,cM]
 ·unfold gG;rw[u,cM]
def XU(s:PS):=(s.n,s.fn,s.YH,s.XX,s.blocks,s.WX,s.XS,s.WT,s.WU,s.sent,s.safe,s.WW,s.on,s.YL,s.XI,s.first,s.receiver,s.XH,s.y7,s.fd,s.o5,s.od)
theorem KJ(h0:1<=n)(h1:n<=32):∃d1 d2,oR d1 (List.replicate n aQ) 0 1/\oR d2 (List.replicate n aQ) 0 1/\
  iN (n:Int)=some (some (XU { n:=n,fn:=n,YH:=0,XX:=1,blocks:=List.replicate n aQ,WX:=(0,[],[],true),XS:=[(0,List.replicate n aQ)],WT:= -1,WU:=(0,0,[]),sent:=0,safe:=0,WW:=[],on:=n,YL:=0,XI:=1,first:= -1,receiver:=(0,0),XH:=[],y7:=n,fd:=d1,o5:=n,od:=d2 }),none):=by
 have u:=Ny (n:=n) h1;have h:(List.replicate n aQ).length=n:=sc;obtain⟨d1,s1,z,_⟩:=Ip u (by rw[h];exact h0) (by rw[h];exact h1) (by decide) (by decide);obtain⟨d2,s2,A,_⟩:=Iq u (by rw[h];exact h0) (by rw[h];exact h1) (by decide) (by decide);rw[h] at z A;refine⟨d1,d2,s1,s2,?_⟩;unfold iN;rw[KI h0 h1,cM];simp only[vF,p7,pF,cM];rw[z,cM];simp only[p7,pF];rw[A,cM];rfl
end Go.YO
namespace Go.YO
open Go Go.Sw Go.Mo Go.Pl Go.A6
structure oh (m:Nat) (b:Bd) (now:List aR) (snaps:List (List aR)):Prop where
 may:uS b (m:Int)=0
 num:(snaps.length:Int)=b.1+1
 bc:now.length=m
 len:∀s∈snaps,s.length=m
 open_:Me (snaps.getD b.1.toNat []) b.2.1=now
 chain:CF snaps b.2.2.1
variable {m:Nat}{b:Bd}{now:List aR}{snaps:List (List aR)}
theorem oh.add(h:oh m b now snaps){p:pV}(hp:0<=p.1/\p.1<m):oh m (b.1,X5 b.2.1 p,b.2.2.1,b.2.2.2) (now.set p.1.toNat p.2) snaps:=by
 obtain⟨E,F,G,H,I,z,K,L,M⟩:=u1 h.may;have B:=j0 m b.2.1 _ z;have C:=j0 m (X5 b.2.1 p) _ (Vv hp z);refine⟨NV h.may hp,h.num,by rw[aCs];exact h.bc,h.len,?_,h.chain⟩;have D:Me (snaps.getD b.1.toNat []) (X5 b.2.1 p)=Me (snaps.getD b.1.toNat []) (b.2.1++[p]):=
  Rk (fun q u=>by have:=C q u;omega) (fun q u=>by
   rcases S9.1 u with u | u
   ·have:=B q u;omega
   ·simp at u;subst u;exact hp.1) fun i=>ES z i
 show Me (snaps.getD b.1.toNat []) (X5 b.2.1 p)=_;rw[D];have A:=h.open_;unfold Me at A ⊢;rw[aC6,A];rfl
theorem KK{n base:Int}:∀(l:List Ep) (j:Int),Gx n base j l=true->∀e∈l,e.1<=base+j+l.length - 1
 | [],_,_,e,h=>by simp at h
 |x::l,j,u,e,h=>by
  simp only[Gx] at u;split at u
  ·rename_i z;rcases B1.1 h with rfl | h
   ·simp only[H6];omega
   ·have:=KK l (j+1) u e h;simp only[H6];omega
  ·cases u
theorem oh.shut(h:oh m b now snaps)(hi:b.1<2147483647):oh m (Ci b) now (snaps++[now]):=by
 obtain⟨I,K,L,M,N,O,P,Q,E⟩:=u1 h.may;have H:=h.num;have A:(Ci b).1=b.1+1:=by unfold Ci;split;rfl;split<;>rfl
 have C:(Ci b).2.1=[]:=by unfold Ci;split;rfl;split<;>rfl
 have D:∀e∈b.2.2.1,e.1<=b.1:=fun e u=>by have:=KK _ _ E e u;omega
 have B:CF (snaps++[now]) b.2.2.1:=fun e u=>by
  obtain⟨F,G⟩:=h.chain e u;have:=D e u;exact⟨F,by rw[uT (by omega),uT (by omega)];exact G⟩
 refine⟨JF h.may hi,by rw[A];simp;omega,h.bc,fun s z=>?_,?_,?_⟩
 ·rcases S9.1 z with z | z
  ·exact h.len s z
  ·simp at z;subst z;exact h.bc
 ·rw[C,A,Fj (by omega)];rfl
 ·unfold Ci;split
  ·exact B
  ·split
   ·intro e u;simp at u
   ·intro e u;rcases S9.1 u with u | u
    ·exact B e u
    ·simp only[aB9] at u;subst u;refine⟨by simp only;omega,?_⟩;simp only;rw[show b.1+1 - 1=b.1 by omega,uT (by omega),Fj (by omega)];exact h.open_
theorem oh.drop(h:oh m b now snaps){num:Int}(hn:0<=num/\num<=b.1):pS b (m:Int) num=some ((b.1,b.2.1,b.2.2.1.filter (fun e=>decide (num<e.1)),if num=b.1 then false else b.2.2.2),none)/\
  oh m (b.1,b.2.1,b.2.2.1.filter (fun e=>decide (num<e.1)),if num=b.1 then false else b.2.2.2) now snaps:=
 ⟨NW h.may hn,JE h.may hn,h.num,h.bc,h.len,h.open_,fun e u=>h.chain e (aCj.1 u).1⟩
theorem Wz(hm:1<=m/\m<=32){num:Nat}(hn:snaps.length=num+1)(hb:num<=2147483647)(hl:∀s∈snaps,s.length=m):oh m ((num:Int),[],[],true) (snaps.getD num []) snaps:=by
 refine⟨Fi (by omega) (by simp;omega) (by simp) rfl (by simp) (by simp) rfl,by simp;omega,?_,hl,rfl,fun e h=>by simp at h⟩;rw[V7,J0 (by omega)];exact hl _ (il _)
theorem Ok{n:Int}:∀(A:List (Option pV)) (j:Nat),(∀(i:Nat) (p:pV),A[i]? =some (some p)->p.1=((j+i:Nat):Int)/\p.1<n)->∀prev:Int,prev<(j:Int)->Go.p6.w9 n prev (A.filterMap id)=true
 | [],_,_,_,_=>rfl
 |none::A,j,h,prev,B=>by
  simp only[List.filterMap_cons,id];exact Ok A (j+1) (fun i p u=>by have:=h (i+1) p (by simpa using u);refine⟨?_,this.2⟩;rw[this.1];congr 1;omega) prev (by omega)
 |some q::A,j,h,prev,B=>by
  have z:=h 0 q rfl;simp only[List.filterMap_cons,id,Go.p6.w9,K0,tu];refine⟨by unfold Go.p6.V4;simp;omega,?_⟩;exact Ok A (j+1) (fun i p u=>by have:=h (i+1) p (by simpa using u);refine⟨?_,this.2⟩;rw[this.1];congr 1;omega) q.1 (by rw[z.1];omega)
theorem oh.since(h:oh m b now snaps){k:Int}(hk:0<=k/\k<=b.1):nL b (m:Int) k=some ((0,[]),false,none)\/
  ∃ps,nL b (m:Int) k=some ((b.1,ps),true,none)/\Me (snaps.getD k.toNat []) ps=snaps.getD b.1.toNat []/\Go.p6.w9 (m:Int) (-1) ps=true/\ps.length<=32:=by
 obtain⟨E,F,G,H,I,K,L,M,A⟩:=u1 h.may;rw[ju b m k (fh h.may),XV (by rw[h.may];simp),XV (by omega)];by_cases c:b.1 - k>b.2.2.1.length
 ·rw[YC c];exact .inl rfl
 ·rw[XV c];refine .inr ⟨_,rfl,?_⟩;have u:=Vz (k:=k) (snaps:=snaps) (by omega:(m:Int)<=32) (by omega:b.1 - b.2.2.1.length+1 - 1<=k) (by omega) b.2.2.1 A h.chain;have B:max k (b.1 - b.2.2.1.length+1+b.2.2.1.length - 1)=b.1:=by omega
  rw[B] at u;refine⟨u.1,?_,?_⟩
  ·refine Ok _ 0 (fun i p z=>?_) (-1) (by omega);have C:=u.2 i p z;have D:=Zl (n:=(m:Int)) (Md A) z;exact⟨by simpa using C,D.2⟩
  ·refine ik (List.length_filterMap_le _ _) ?_;rw[Bw];simp
end Go.YO
namespace Go.YO
open Go Go.Sw Go.Mo Go.Pl
open Go.ZZ (EL EM orI orP)
abbrev w7:=Int×Int×Int×aR
abbrev Fm:=Int×List Int×List aR
theorem TY{a b:Nat}(ha:a<4611686018427387904)(hb:b<4611686018427387904):ar .and .i64 (a:Int) (b:Int)=((a &&& b:Nat):Int):=by
 have h:a &&& b<2 ^ 62:=Nat.lt_of_le_of_lt Nat.and_le_left (by simpa using ha);show IntKind.wrap .i64 ((BitVec.ofInt 64 (a:Int) &&& BitVec.ofInt 64 (b:Int)).toNat:Int)=_;simp only[sF,aEv,aB8];rw[V8 (a:=a) (by omega),V8 (a:=b) (by omega)];exact wrap_i64 (by omega)
theorem OM{at_ k fr:Nat}(h1:at_<32)(h2:k<4)(h3:fr<64):ar .or .i64 (ar .or .i64 (sh .shl .i64 (at_:Int) (8:Int)) (sh .shl .i64 (k:Int) (6:Int))) (fr:Int)=((at_*256+k*64+fr:Nat):Int):=by
 have h:sh .shl .i64 (at_:Int) (8:Int)=((at_*2 ^ 8:Nat):Int):=EM (c:=8) (by omega) (by omega);have u:sh .shl .i64 (k:Int) (6:Int)=((k*2 ^ 6:Nat):Int):=EM (c:=6) (by omega) (by omega);rw[h,u,orI (by omega) (by omega),orP (by omega),orI (by omega) (by omega)];have z:at_*2 ^ 8+k*2 ^ 6=(at_*4+k)*2 ^ 6:=by omega
 rw[z,orP (by omega)]
theorem RK{at_ k fr:Nat}(h1:at_<32)(h2:k<4)(h3:fr<64):sh .shr .i64 ((at_*256+k*64+fr:Nat):Int) (8:Int)=(at_:Int)/\
  ar .and .i64 (sh .shr .i64 ((at_*256+k*64+fr:Nat):Int) (6:Int)) (3:Int)=(k:Int)/\ar .and .i64 ((at_*256+k*64+fr:Nat):Int) (63:Int)=(fr:Int):=by
 have h:sh .shr .i64 ((at_*256+k*64+fr:Nat):Int) (8:Int)=(((at_*256+k*64+fr) / 2 ^ 8:Nat):Int):=EL _ 8 (by omega);have u:sh .shr .i64 ((at_*256+k*64+fr:Nat):Int) (6:Int)=(((at_*256+k*64+fr) / 2 ^ 6:Nat):Int):=EL _ 6 (by omega);have z:ar .and .i64 (((at_*256+k*64+fr) / 2 ^ 6:Nat):Int) (3:Int)=((((at_*256+k*64+fr) / 2 ^ 6) &&& 3:Nat):Int):=TY (b:=3) (by omega) (by omega);have A:ar .and .i64 ((at_*256+k*64+fr:Nat):Int) (63:Int)=(((at_*256+k*64+fr) &&& 63:Nat):Int):=TY (b:=63) (by omega) (by omega);rw[h,u,z,A];have B:∀x:Nat,x &&& 3=x % 4:=fun x=>aDf x 2;have C:∀x:Nat,x &&& 63=x % 64:=fun x=>aDf x 6;rw[B,C];refine⟨?_,?_,?_⟩<;>congr 1<;>omega
def qF(q:w7):Int:=q.1*256+q.2.1*64+q.2.2.1
def uH(l:List w7):List aR:=(l.filter fun q=>decide (q.2.1=3)).map fun q=>q.2.2.2
structure ga (q:w7):Prop where
 a:0<=q.1/\q.1<32
 k:0<=q.2.1/\q.2.1<=3
 f:0<=q.2.2.1/\q.2.2.1<64
 z:q.2.1≠3->q.2.2.2=aQ
def rM(l:List w7)(nr to:Int):Fm:=((4:Int),[nr,to]++l.map qF,uH l)
theorem KL{q:w7}(h:ga q):ar .or .i64 (ar .or .i64 (sh .shl .i64 q.1 (8:Int)) (sh .shl .i64 q.2.1 (6:Int))) q.2.2.1=qF q:=by
 obtain⟨a,u⟩:∃a:Nat,q.1=a:=⟨q.1.toNat,by have:=h.a;omega⟩;obtain⟨k,z⟩:∃a:Nat,q.2.1=a:=⟨q.2.1.toNat,by have:=h.k;omega⟩;obtain⟨f,A⟩:∃a:Nat,q.2.2.1=a:=⟨q.2.2.1.toNat,by have:=h.f;omega⟩;have B:=h.a;have C:=h.k;have D:=h.f;unfold qF;rw[u,z,A,OM (by omega) (by omega) (by omega)];omega
theorem ON{q:w7}(h:ga q):sh .shr .i64 (qF q) (8:Int)=q.1/\ar .and .i64 (sh .shr .i64 (qF q) (6:Int)) (3:Int)=q.2.1/\ar .and .i64 (qF q) (63:Int)=q.2.2.1:=by
 obtain⟨a,u⟩:∃a:Nat,q.1=a:=⟨q.1.toNat,by have:=h.a;omega⟩;obtain⟨k,z⟩:∃a:Nat,q.2.1=a:=⟨q.2.1.toNat,by have:=h.k;omega⟩;obtain⟨f,A⟩:∃a:Nat,q.2.2.1=a:=⟨q.2.2.1.toNat,by have:=h.f;omega⟩;have B:=h.a;have C:=h.k;have D:=h.f;have:=RK (at_:=a) (k:=k) (fr:=f) (by omega) (by omega) (by omega);unfold qF;rw[u,z,A];have e:(a:Int)*256+(k:Int)*64+(f:Int)=((a*256+k*64+f:Nat):Int):=by omega
 rw[e];exact this
theorem Ir(l:List w7)(x:w7):uH (l++[x])=uH l++(if x.2.1=3 then [x.2.2.2] else []):=by
 unfold uH;rw[aB4,aCr];by_cases h:x.2.1=3<;>simp[h]
theorem Xa(l:List w7):(uH l).length<=l.length:=by unfold uH;rw[oc];exact aCx _ _
theorem KM(num nr:Int)(ps:List (Int×aR))(base:List aR)(hp:ps.length<=32)(he:Go.p6.ZT base []=0)(hr:Go.p6.w9 (base.length:Int) (-1) ps=true)(hk:∀q∈Go.p6.l7 ps base [],ga q):
  rH (num,ps) base nr=some (rM (Go.p6.l7 ps base []) nr num,decide (((2+(Go.p6.l7 ps base []).length:Nat):Int)<=9)):=by
 unfold rH;rw[Go.p6.lz ps base [] (by omega) (by simp),XV (by rw[he];simp),YC hr,cM];simp only[p7,pF];have A:(Go.p6.l7 ps base []).length<=32:=ik (Go.p6.az _ _ _) hp;generalize hL:Go.p6.l7 ps base []=L at hk A;rw[show ((0:Int),([nr,num]:List Int),([]:List aR))=(fun (i:Nat) (acc:List Int×List aR)=>((i:Int),acc.1,acc.2)) 0 ([nr,num],[]) from rfl];refine Ds (l:=L) (fun (i:Nat) (acc:List Int×List aR)=>((i:Int),acc.1,acc.2)) (fun h acc=>acc=([nr,num]++h.map qF,uH h)) (fun acc=>(acc.1,acc.2)) ([nr,num],[]) (by unfold fL;omega) rfl ?_ ?_ ?_
 ·rintro h x E acc z rfl;have C:h.length<=32:=by rw[z] at A;simp at A;omega
  have B:=hk x (by rw[z];simp);have D:=Xa h;refine⟨([nr,num]++(h++[x]).map qF,uH (h++[x])),?_,rfl⟩;simp only[kR z,YX,kF z,cM,KL B];rw[WV _ _ (by simp;omega),cM,C2 (by omega),ce,Ir];by_cases u:x.2.1=3
  ·rw[D5 u,YX,WV _ _ (by simp;omega),cM,YC u];simp
  ·rw[n9 u,pF,XV u];simp
 ·rintro acc rfl;simp only[dV,pF]
 ·rintro acc rfl;simp only[rM,cle];have e:(([nr,num]++L.map qF).length:Int)=((2+L.length:Nat):Int):=by rw[sM,oc];rfl
  rw[e]
theorem Zu(l:List w7)(nr to:Int)(hl:l.length<=32)(hk:∀q∈l,ga q):oM (rM l nr to)=some (l,true):=by
 unfold oM rM;have I:Sw.sub ([nr,to]++l.map qF) (2:Int) ((([nr,to]++l.map qF).length:Nat):Int)=some (l.map qF):=by
  have:=Go.YA.P5 ([nr,to]++l.map qF) 2 (by simp);simpa using this
 rw[I,cM];have K:(l.map qF).length=l.length:=oc ..;rw[show (uH l,(0:Int),([]:List w7))=(fun (i:Nat) (acc:List aR×List w7)=>(acc.1,(i:Int),acc.2)) 0 (uH l,[]) from rfl];refine Ds (l:=l) (fun (i:Nat) (acc:List aR×List w7)=>(acc.1,(i:Int),acc.2)) (fun F acc=>acc.2=F/\uH F++acc.1=uH l) (fun acc=>(acc.1,acc.2)) (uH l,[]) (by unfold fL;omega) ⟨rfl,rfl⟩ ?_ ?_ ?_
 ·rintro F x u ⟨G,out⟩ C ⟨B,h⟩;simp only at B h;subst B;have U:out.length<=32:=by rw[C] at hl;simp at hl;omega
  have H:=hk x (by rw[C];simp);obtain⟨R,S,T⟩:=ON H;have L:Sw.idx (l.map qF) (out.length:Int)=some (qF x):=sG (by rw[C];simp);have D:cm .lss (out.length:Int) ((l.map qF).length:Int)=true:=by rw[K];exact kR C
  simp only[D,YX,L,cM,R,S,T,jp,ce];have E:uH l=uH out++((if x.2.1=3 then [x.2.2.2] else [])++uH u):=by
   rw[C,show out++x::u=(out++[x])++u by simp];have:∀a b:List w7,uH (a++b)=uH a++uH b:=fun a b=>by unfold uH;rw[aB4,aCr]
   rw[this,Ir,H7]
  rw[E] at h;have h:=List.append_cancel_left h;by_cases A:x.2.1=3
  ·rw[YC A] at h;subst h;rw[D5 A,YX];have M:decide (((([x.2.2.2]++uH u).length:Nat):Int)=0)=false:=n9 (by simp;omega);have N:Sw.sub ([x.2.2.2]++uH u) (1:Int) ((([x.2.2.2]++uH u).length:Nat):Int)=some (uH u):=by
    have:=Go.YA.P5 ([x.2.2.2]++uH u) 1 (by simp);simpa using this
   have O:Sw.idx ([x.2.2.2]++uH u) (0:Int)=some x.2.2.2:=(by simp[Sw.idx]);rw[M,pF,O,cM,N,cM,WV _ _ (by simp;omega),cM,C2 (by omega)];refine⟨(uH u,out++[x]),rfl,rfl,?_⟩;simp only;rw[Ir,YC A,E,YC A,H7]
  ·rw[XV A,Z1] at h;subst h;rw[n9 A,pF,WV _ _ (by simp;omega),cM,C2 (by omega)];have P:=H.z A;refine⟨(uH u,out++[x]),?_,rfl,?_⟩
   ·rw[<-P]
   ·simp only;rw[Ir,XV A,cw,E,XV A,Z1]
 ·rintro⟨G,out⟩ ⟨B,h⟩;simp only at B h;subst B;have D:cm .lss (out.length:Int) ((out.map qF).length:Int)=false:=by rw[oc];exact dV
  simp only[D,pF]
 ·rintro⟨G,out⟩ ⟨B,h⟩;simp only at B h;subst B;have Q:G=[]:=by
   have:=congrArg List.length h;simp at this;exact this
  subst Q;rfl
end Go.YO
namespace Go.YO
open Go Go.Sw Go.Mo Go.Pl
open Go.ZZ (oR sT Vt qE xZ zA)
open Go.YA (dQ)
def l4(b:aR):Prop:=b.length=8/\Bytes b
structure C8 (n:Nat) (snaps:List (List aR)) (cur to:Int) (m:Fm):Prop where
 lt:cur<to
 nn:0<=cur
 le:to<snaps.length
 load:dQ m=0
 j1:∀b∈m.2.2,l4 b
 say:m=((5:Int),[to],snaps.getD to.toNat [])\/∃l ps,m=rM l cur to/\l.length<=7/\(∀q∈l,ga q)/\pR l (snaps.getD cur.toNat []) []=some (ps,[],none)/\
  sT (snaps.getD cur.toNat []) ps=snaps.getD to.toNat []/\ps.length<=n/\(∀p∈ps,0<=p.1/\p.1<(n:Int))
def nH:Nat->List aR->List (Int×aR)
 |_,[]=>[]
 |i,b::l=>((i:Int),b)::nH (i+1) l
theorem Is:∀(l:List aR) (i:Nat) (b:aR),nH i (l++[b])=nH i l++[(((i+l.length:Nat):Int),b)]
 | [],_,_=>rfl
 |x::l,i,b=>by
  simp only[fy,nH,H6];rw[Is l (i+1) b];congr 4;omega
theorem Dx:∀(l:List aR) (i:Nat),(nH i l).length=l.length
 | [],_=>rfl
 |_::l,i=>by simp[nH,Dx l (i+1)]
theorem Le:∀(l:List aR) (i:Nat),∀p∈nH i l,(i:Int)<=p.1/\p.1<((i+l.length:Nat):Int)
 | [],_,p,h=>by simp[nH] at h
 |x::l,i,p,h=>by
  simp only[nH,B1] at h;rcases h with rfl | h
  ·simp only[H6];omega
  ·have:=Le l (i+1) p h;simp only[H6];omega
theorem Ol:∀(l pre base:List aR),base.length=l.length->sT (pre++base) (nH pre.length l)=pre++l
 | [],pre,base,h=>by
  have:base=[]:=kt (by simpa using h);subst this;rfl
 |x::l,pre,base,h=>by
  match base,h with
  |y::base,h=>
   simp only[nH];show sT ((pre++y::base).set ((pre.length:Int)).toNat x) (nH (pre.length+1) l)=_;have:(pre++y::base).set ((pre.length:Int)).toNat x=(pre++[x])++base:=(by simp);rw[this];have:=Ol l (pre++[x]) base (by simpa using h);simp only[sM,H6,ak] at this;rw[this];simp
variable {n:Nat}{snaps:List (List aR)}
theorem Om{d:(List aR)×(List (Int×aR))×Int}{blocks:List aR}{a b:Nat}(h:oR d blocks a b)(h0:1<=blocks.length)(h1:blocks.length<=32)(Y4:b<=2147483647)(ZJ:List (Int×aR))(to:Int)(ht:0<=to/\to<=2147483647)
  (hl:ZJ.length<=blocks.length) (hp:∀p∈ZJ,0<=p.1/\p.1<(blocks.length:Int)):
  ∃d',oR d' (sT blocks ZJ) to.toNat b/\
   (∀b0 b1 b2 b4 b5 b6 b7 b8 b9 YG YF YN YB YK YE YJ XZ YU YT,jX ZJ to b0 b1 b2 (b:Int) b4 b5 b6 b7 b8 b9 YG YF YN YB YK YE YJ XZ (blocks.length:Int) d YU YT=some (none,to,(blocks.length:Int),d'))/\
   (∀b0 b1 b2 b3 b4 b5 b6 b7 b8 b9 YG YF YN YB YE YJ XZ YW YV,gV ZJ to b0 b1 b2 b3 b4 b5 b6 b7 b8 b9 YG YF YN YB (b:Int) YE YJ XZ YW YV (blocks.length:Int) d=some (none,to,(blocks.length:Int),d')):=by
 have B:Vt blocks.length ZJ to (b:Int)=0:=by
  unfold Vt;rw[XV (by omega),XV (by omega),XV];intro C;obtain⟨p,D,A⟩:=aDe.1 C;have:=hp p D;unfold qE at A;simp at A;omega
 obtain⟨d',x',y',u,z,_,_,_,e,E⟩:=zA h h0 h1 ZJ to (b:Int) B;have u:to.toNat=x':=by omega
 have z:b=y':=by omega
 subst u z;refine⟨d',E,?_,?_⟩<;>intros
 ·unfold jX;rw[e];rfl
 ·unfold gV;rw[e];rfl
end Go.YO
namespace Go.YO
open Go Go.Sw Go.Mo Go.Pl
open Go.ZZ (oR sT Vt qE xZ zA)
open Go.YA (dQ)
variable {n:Nat}{snaps:List (List aR)}
theorem Tu{γ:Type}(l:List aR)(hl:l.length<=1000)(k:List (Int×aR)->Option γ):
  lp (β:=(List (Int×aR))) (fun (K2:Int×(List (Int×aR)))=>
    bif (cm .lss K2.1 (l.length:Int)) then
     (Sw.idx l K2.1).bind fun z26=>
      (Sw.app K2.2 ([(K2.1,z26)]:(List (Int×aR)))).bind fun q7=>
       some (.next ((ar .add .i64 K2.1 (1:Int)),q7))
    else
     some (.done (.XT K2.2))
    ) ((0:Int),([]:(List (Int×aR)))) k=k (nH 0 l):=by
 rw[show ((0:Int),([]:List (Int×aR)))=(fun (i:Nat) (acc:List (Int×aR))=>((i:Int),acc)) 0 [] from rfl];refine Ds (l:=l) (fun (i:Nat) (acc:List (Int×aR))=>((i:Int),acc)) (fun h acc=>acc=nH 0 h) (fun acc=>acc) [] (by unfold fL;omega) rfl ?_ ?_ ?_
 ·rintro h x A acc u rfl;have z:h.length<=1000:=by rw[u] at hl;simp at hl;omega
  refine⟨nH 0 (h++[x]),?_,rfl⟩;simp only[kR u,YX,kF u,cM];rw[WV _ _ (by simp[Dx];omega),cM,C2 (by omega),Is,aC5]
 ·rintro acc rfl;simp only[dV,pF]
 ·rintro acc rfl;rfl
theorem OO{s:PS}{blocks:List aR}{a b:Nat}(h:oR s.od blocks a b)(Y5:blocks=snaps.getD a [])(h0:1<=n)(h1:n<=32)(gz:∀x∈snaps,x.length=n)(ha:s.YL=(a:Int))(cq:a<snaps.length)(m7:snaps.length<=2147483647)(hb:s.XI=(b:Int))(Y4:b<=2147483647)
  (hon:s.on=(n:Int)) (ho:s.o5=(n:Int)) {m:Fm} {to:Int} (hm:C8 n snaps (a:Int) to m):
  ∃d',oR d' (snaps.getD to.toNat []) to.toNat b/\sH m s=some (none,{ s with YL:=to,o5:=(n:Int),od:=d' }):=by
 have S:=hm.lt;have T:=hm.le;have E:∀i:Nat,i<snaps.length->(snaps.getD i []).length=n:=fun i O=>by
  rw[V7,J0 O];exact gz _ (il _)
 have A:blocks.length=n:=by rw[Y5];exact E a cq
 have F:(snaps.getD to.toNat []).length=n:=E _ (by omega);rcases hm.say with rfl |⟨l,P,rfl,U,Q,D,z,V,R⟩
 ·
  obtain⟨d',u,_,e⟩:=Om h (by omega) (by omega) Y4 (nH 0 (snaps.getD to.toNat [])) to (by omega) (by rw[Dx];omega) (fun p C=>by have:=Le _ _ p C;omega);rw[A] at e;have z:sT blocks (nH 0 (snaps.getD to.toNat []))=snaps.getD to.toNat []:=by
   have:=Ol (snaps.getD to.toNat []) [] blocks (by omega);simpa using this
  rw[z] at u;refine⟨d',u,?_⟩;unfold sH fI;have B:Sw.idx [to] (0:Int)=some to:=by simp[Sw.idx]
  have I:((([to]:List Int).length:Nat):Int)=1:=rfl;simp only[ce,I,hon,F,B,cg,fw,YX,cM];rw[ha,D5 (show to>(a:Int) by omega),YX];have G:=Tu (snaps.getD to.toNat []) (by omega) (γ:=(Option Int)×Int×Int×((List aR)×(List (Int×aR))×Int));rw[F] at G;rw[G];simp only[cM,hb,ho,e]
 ·
  obtain⟨d',u,_,e⟩:=Om h (by omega) (by omega) Y4 P to (by omega) (by omega) (fun p C=>by have:=R p C;omega);rw[A] at e;rw[A5] at D z;rw[Y5,z] at u;refine⟨d',u,?_⟩;have H:=xZ h;rw[A] at H;unfold sH fI;have K:=Zu l (a:Int) to (by omega) Q;have B:Sw.idx ((rM l (a:Int) to).2.1) (0:Int)=some (a:Int):=by simp[rM,Sw.idx]
  have L:Sw.idx ((rM l (a:Int) to).2.1) (1:Int)=some to:=by simp[rM,Sw.idx]
  have M:(rM l (a:Int) to).1=4:=rfl;have N:decide ((((rM l (a:Int) to).2.1.length:Nat):Int)>=2)=true:=D5 (by simp[rM];omega);rw[<-Y5] at D;simp only[ce,M,O6,N,B,L,cg,YX,cM];rw[show decide ((4:Int)=5)=false from rfl,pF,cM,pF,D5 trivial,YX,ha,D5 rfl,YX,D5 (show to>(a:Int) by omega),cM,YX,ho,H,cM];simp only[p7,pF,K,cM,D,lu];rw[show decide ((([]:List Int).length:Int)>0)=false from rfl];simp only[cM,pF,hb,e]
end Go.YO
namespace Go.YO
open Go Go.Sw Go.Mo Go.Pl
open Go.ZZ (sT)
open Go.p6 (w9 V4 Lk l7 Uj news ZT)
open Go.YA (dQ eB)
open Go.A6 (Me)
theorem Rw{n:Int}:∀(l:List (Int×aR)) (prev:Int) (acc:List aR),-1<=prev->w9 n prev l=true->∀i:Nat,(i:Int)<=prev->(Lk acc l)[i]? =acc[i]?
 | [],_,_,_,_,_,_=>rfl
 |x::l,prev,acc,z,h,i,A=>by
  simp only[w9,K0,tu] at h;have u:=h.1;unfold V4 at u;simp at u;show (Lk (acc.set x.1.toNat x.2) l)[i]? =_;rw[Rw l x.1 _ (by omega) h.2 i (by omega),xi (by omega)]
theorem CS{n:Int}:∀(l:List (Int×aR)) (prev:Int) (acc:List aR),-1<=prev->w9 n prev l=true->(n<=acc.length)->∀p∈l,(Lk acc l)[p.1.toNat]? =some p.2
 | [],_,_,_,_,_,p,u=>by simp at u
 |x::l,prev,acc,B,h,A,p,u=>by
  simp only[w9,K0,tu] at h;have z:=h.1;unfold V4 at z;simp at z;show (Lk (acc.set x.1.toNat x.2) l)[p.1.toNat]? =_;rcases B1.1 u with rfl | u
  ·rw[Rw l p.1 _ (by omega) h.2 _ (by omega),aB0 (by omega)]
  ·exact CS l x.1 _ (by omega) h.2 (by rw[aCs];exact A) p u
theorem Xb{n:Int}:∀(l:List (Int×aR)) (prev:Int),prev<n->w9 n prev l=true->(l.length:Int)<=n - 1 - prev
 | [],_,z,_=>by simp;omega
 |x::l,prev,z,h=>by
  simp only[w9,K0,tu] at h;have u:=h.1;unfold V4 at u;simp at u;have:=Xb l x.1 (by omega) h.2;simp only[H6];omega
variable {n:Nat}{snaps:List (List aR)}
theorem OP{ps:List (Int×aR)}{base:List aR}(hr:w9 (base.length:Int) (-1) ps=true)(hb:base.length<=32):∀q∈l7 ps base [],ga q:=by
 intro q u;unfold l7 at u;obtain⟨p,A,rfl⟩:=fx.1 u;have B:=Go.p6.P8 hr p (aCj.1 A).1;unfold Uj;split
 ·exact⟨by simp only;omega,by simp,by simp,fun _=>rfl⟩
 ·split
  ·rename_i z;have:=aEg z;exact⟨by simp only;omega,by simp,by simp only;omega,fun _=>rfl⟩
  ·split
   ·rename_i h;simp at h
   ·exact⟨by simp only;omega,by simp,by simp,fun h=>by simp at h⟩
theorem KN{ps:List (Int×aR)}{base:List aR}:∀x∈uH (l7 ps base []),∃p∈ps,x=p.2:=by
 intro x A;unfold uH at A;obtain⟨q,z,rfl⟩:=fx.1 A;obtain⟨z,u⟩:=aCj.1 z;unfold l7 at z;obtain⟨p,E,rfl⟩:=fx.1 z;refine⟨p,(aCj.1 E).1,?_⟩;unfold Uj at u ⊢;split at u
 ·simp at u
 ·rename_i B;rw[XV B];split at u
  ·simp at u
  ·rename_i C;rw[XV C];split at u
   ·rename_i h;simp at h
   ·rename_i D;rw[XV D]
theorem Mh{f:Fm}(h1:0<=f.1/\f.1<=15)(h2:f.2.1.length<=9)(h3:f.2.2.length<=32)(h4:∀x∈f.2.1,0<=x/\x<=2147483647):dQ f=0:=by
 have u:eB f=0:=by
  unfold eB;rw[XV (by omega),XV (by omega),XV];intro z;obtain⟨x,A,h⟩:=aDe.1 z;have:=h4 x A;rw[Go.YA.A4.2 this] at h;cases h
 unfold dQ;rw[YC u,XV (by omega)]
theorem OQ{b:Int×List (Int×aR)×List (Int×List (Int×aR))×Bool}{now:List aR}{XS:List (Int×List aR)}{c9:Nat}{k:Int}(he:oh n b now snaps)(h0:1<=n)(h1:n<=32)(hh:snaps.length=c9+1)(o6:c9<=2147483647)
  (Y5:∀s∈snaps,∀x∈s,l4 x) (aQi:∀j l,fR XS j=some l->0<=j/\j<=c9/\l=snaps.getD j.toNat []) (aQ8:fR XS (c9:Int)=some (snaps.getD c9 [])) (hk: -1<=k/\k<c9):
  ∃m,(∀b0 b3 b4 b7 b8 YG YF YN YB YK YE YJ XZ YW YV YU YT,dS b0 (n:Int) (c9:Int) b3 b4 b XS b7 b8 k YG YF YN YB YK YE YJ XZ YW YV YU YT=some m)/\
   ∀cur:Int,0<=cur->cur<c9->(k= -1\/cur=k)->C8 n snaps cur c9 m:=by
 have S:b.1=c9:=by have:=he.num;omega
 have I:∀i:Nat,i<snaps.length->snaps.getD i []∈snaps:=fun i M=>by
  rw[V7,J0 M];exact il _
 have O:∀i:Nat,i<snaps.length->(snaps.getD i []).length=n:=fun i M=>he.len _ (I i M);have F:∀cur:Int,0<=cur->cur<c9->C8 n snaps cur c9 ((5:Int),[(c9:Int)],snaps.getD c9 []):=fun cur A B=>
  ⟨B,A,by omega,Mh (by simp) (by simp) (by have:=O c9 (by omega);simp only;omega) (fun x C=>by simp at C;omega),fun x C=>Y5 _ (I c9 (by omega)) x C,.inl (by simp)⟩
 have G:(fR XS (c9:Int)).getD []=snaps.getD c9 []:=by rw[aQ8];rfl
 by_cases T:k<0
 ·refine⟨((5:Int),[(c9:Int)],snaps.getD c9 []),?_,fun cur A B _=>F cur A B⟩
  intros
  unfold dS;rw[Go.A6.ju b n k (Go.A6.fh he.may),XV (by rw[he.may];simp),YC (.inl T)];simp only[cM,Option.isNone_some,pF,jp,G]
 ·rcases he.since (k:=k) ⟨by omega,by omega⟩ with E |⟨z,E,X,D,gv⟩
  ·refine⟨((5:Int),[(c9:Int)],snaps.getD c9 []),?_,fun cur A B _=>F cur A B⟩
   intros
   unfold dS;rw[E];simp only[cM,kr,YX,pF,jp,G]
  ·cases hg:fR XS k with
   |none=>
    refine⟨((5:Int),[(c9:Int)],snaps.getD c9 []),?_,fun cur A B _=>F cur A B⟩
    intros
    unfold dS;rw[E];simp only[cM,kr,YX,pF,jp,G,hg,p7]
   |some u=>
    obtain⟨_,_,H⟩:=aQi k u hg;have U:u.length=n:=(by rw[H];exact O _ (by omega));have P:ZT u []=0:=Go.p6.gp (by omega) (by omega) (by simp) (by simp);rw[<-U] at D;have K:=OP D (by omega);have Q:=KM b.1 k z u gv P D K;by_cases U9:2+(l7 z u []).length<=9
    ·refine⟨rM (l7 z u []) k b.1,?_,fun cur A B N=>?_⟩
     ·intros
      unfold dS;rw[E];simp only[cM,kr,YX,jp,hg,aCv,aCe,Q];rw[D5 (by omega),YX]
     ·have V:cur=k:=(by rcases N with N | N<;>omega);subst V;have th:=Xa (l7 z u []);have R:Lk u z=snaps.getD b.1.toNat []:=(by rw[<-X,<-H];rfl);refine⟨by omega,A,by omega,Mh (by simp[rM]) (by simp[rM];omega) (by simp only[rM];omega) (fun x C=>?_),fun x C=>?_,.inr ⟨l7 z u [],news z u,by rw[S],by omega,K,?_,?_,?_,?_⟩⟩
      ·simp only[rM,S9,B1,aCm,aEl,fx] at C;rcases C with (rfl | rfl) |⟨q,hq,rfl⟩
       ·omega
       ·omega
       ·have h:=K q hq;have a1:=h.a;have a2:=h.k;have a3:=h.f;unfold qF;omega
      ·obtain⟨p,L,rfl⟩:=KN x C;have:=CS z (-1) u (by omega) D (aDo _) p L;rw[R] at this;exact Y5 _ (I _ (by omega)) _ (aB7 this)
      ·rw[<-H];exact Go.p6.nv z u [] (by omega) (by simp) P D
      ·rw[<-H];have h1:sT u (news z u)=Lk u (news z u):=rfl;rw[h1,Go.p6.T7 (by omega) D (fun _ _=>rfl),R];congr 1;omega
      ·have h1:=Xb z (-1) (by omega) D;have h2:(news z u).length<=z.length:=aCx _ _;omega
      ·intro p L;have:=Go.p6.zr D p L;omega
    ·refine⟨((5:Int),[(c9:Int)],snaps.getD c9 []),?_,fun cur A B _=>F cur A B⟩
     intros
     unfold dS;rw[E];simp only[cM,kr,YX,jp,hg,aCv,aCe,Q];rw[n9 (by omega),pF,G]
end Go.YO
namespace Go.YO
open Go Go.Sw Go.Mo Go.Pl
theorem TZ(n c:Nat)(hc:c<=64):sh .shr .u64 (n:Int) (c:Int)=((n / 2 ^ c:Nat):Int):=Go.og.aOh n c hc
theorem VR{a b:Nat}(ha:a<18446744073709551616)(hb:b<18446744073709551616):ar .and .u64 (a:Int) (b:Int)=((a &&& b:Nat):Int):=by
 show IntKind.wrap .u64 ((BitVec.ofInt 64 (a:Int) &&& BitVec.ofInt 64 (b:Int)).toNat:Int)=_;simp only[sF,aEv,aB8];rw[V8 (a:=a) (by omega),V8 (a:=b) (by omega)];have:a &&& b<=a:=Nat.and_le_left;show ((a &&& b:Nat):Int) % 18446744073709551616=_;omega
theorem FC{h:Nat}(hh:h<18446744073709551616):qC (h:Int)=some [((h / 8589934592:Nat):Int),((h / 4 % 2147483648:Nat):Int)]:=by
 unfold qC;have u:sh .shr .u64 (h:Int) (33:Int)=((h / 2 ^ 33:Nat):Int):=TZ h 33 (by omega);have z:sh .shr .u64 (h:Int) (2:Int)=((h / 2 ^ 2:Nat):Int):=TZ h 2 (by omega);have A:ar .and .u64 ((h / 2 ^ 2:Nat):Int) (2147483647:Int)=((h / 2 ^ 2 &&& 2147483647:Nat):Int):=VR (b:=2147483647) (by omega) (by omega);have B:∀x:Nat,x &&& 2147483647=x % 2147483648:=fun x=>aDf x 31;rw[u,z,A,B,wrap_i64 (by omega),wrap_i64 (by omega)]
theorem Zv{bs:List aR}(h0:1<=bs.length)(h1:bs.length<=32)(hb:∀b∈bs,l4 b):∃x y:Int,kE bs=some [x,y]/\(0<=x/\x<=2147483647)/\(0<=y/\y<=2147483647):=by
 have B:=Go.og.qh bs h0;have D:=B.ne;obtain⟨u,l,z⟩:∃u l,Go.og.tree bs=u++[l]:=⟨_,_,(List.dropLast_concat_getLast D).symm⟩;have E:l.length=1:=by
  rcases B.at u [] l z with⟨_,h⟩|⟨m,r,h,_⟩
  ·exact h
  ·cases h
 obtain⟨v,rfl⟩:∃v,l=[v]:=by
  match l,E with
  | [v],_=>exact⟨v,rfl⟩
 have A:=(Go.og.uj bs h1 [v] (by rw[z];simp)).1 v (by simp);have C:=Go.og.ui bs;rw[z] at C;have K:u.length<=32:=by simp at C;omega
 unfold kE;rw[Go.og.aOk bs hb (by omega),XV (by omega),cM];simp only[p7,pF,z];have F:(((u++[[v]]).length:Nat):Int)=((u.length+1:Nat):Int):=by simp
 have G:ar .sub .i64 ((u.length+1:Nat):Int) 1=(u.length:Int):=by rw[T5 (by omega)];omega
 have H:Sw.idx (u++[[v]]) (u.length:Int)=some [v]:=sG (by simp);have I:Sw.idx [v] (0:Int)=some v:=by simp[Sw.idx]
 rw[F,G,H,cM,I,cM];obtain⟨h,rfl⟩:∃h:Nat,v=h:=⟨v.toNat,by have:=A;omega⟩;rw[FC (by have:=A;omega),cM];exact⟨_,_,rfl,by have:=A;omega,by omega⟩
end Go.YO
namespace Go.YO
open Go Go.Sw Go.Mo Go.Pl
open Go.ZZ (oR)
open Go.YA (Good bM fB dQ)
def kN(fb ob:Nat):Int:=((fb*4096+ob:Nat):Int)
theorem tD{a b c d:Nat}(hb:b<4096)(hd:d<4096)(h:kN a b=kN c d):a=c/\b=d:=by unfold kN at h;omega
def jV(g:Nat):Fm:=((2:Int),[(g:Int)],[])
def dX(g o j:Nat)(t:List Int):Fm:=((3:Int),[(g:Int),(o:Int),(j:Int)]++t,[])
def XW(S:Int)(q:Nat)(m:Fm):Fm:=((1:Int),[S,(q:Int),m.1]++m.2.1,m.2.2)
def tF(S:Int)(a:Nat):Fm:=((0:Int),[S,(a:Int)],[])
structure J2 (m:Fm):Prop where
 load:dQ m=0
 j1:∀b∈m.2.2,l4 b
structure Nm where
 n:Nat
 h:Nat
 fb:Nat
 ob:Nat
 k:Nat
 q:Nat
 x:Nat
def tL(v:Nm)(s:PS)(S:Int):Prop:=∃g o:Nat,S=kN g o/\1<=g/\1<=o/\o<=v.ob/\(g<v.fb\/(g=v.fb/\S<=s.WT))/\(o=v.ob->(g:Int)<=s.first)
def Dy(v:Nm)(snaps:List (List aR))(s:PS)(f:Fm):Prop:=
 (∃g:Nat,1<=g/\g<=v.fb/\f=jV g)\/
 (∃S q m,f=XW S q m/\J2 m/\tL v s S/\(S=s.WT->q<v.q\/(q=v.q/\s.WU.2.2=[m]))/\(0<=s.first->S=s.receiver.1->q<=v.x/\(q=v.x->∃to,C8 v.n snaps v.k to m)))
def Fl(v:Nm)(snaps:List (List aR))(s:PS)(f:Fm):Prop:=
 (∃g o j t,f=dX g o j t/\1<=g/\g<=v.fb/\1<=o/\o<=v.ob/\j<=v.k/\kE (snaps.getD j [])=some t/\(g=v.fb->o=v.ob->s.WT<kN g o->j=v.k/\s.first=(v.fb:Int)/\v.x=0))\/
 (∃S a,f=tF S a/\tL v s S/\(S=s.WT->a<=v.q\/(a=v.q+1/\s.WU.2.2≠ []/\s.sent<=v.k))/\(0<=s.first->S=s.receiver.1->a<=v.x))
structure C9 (v:Nm) (snaps:List (List aR)) (s:PS) (y:Bool×Bool×List Int):Prop where
 bytes:Bytes y.2.2
 len:y.2.2.length<=2000
 ne:y.2.2≠ []
 L9:y.2.1=true->fB y.2.2=none
 whole:y.2.1=false->∃f,Good f/\y.2.2=bM f/\(y.1=true->Dy v snaps s f)/\(y.1=false->Fl v snaps s f)
structure Inv (v:Nm) (now:List aR) (snaps:List (List aR)) (s:PS):Prop where
 n0:1<=v.n
 n1:v.n<=32
 en:s.n=v.n
 efn:s.fn=v.n
 eon:s.on=v.n
 aFv:s.y7=v.n
 rr:s.o5=v.n
 hs:snaps.length=v.h+1
 F9:v.h<=100000/\v.fb<=3000/\v.ob<=3000/\v.q<=100000/\v.x<=100000
 pos:1<=v.fb/\1<=v.ob
 enum:s.YH=v.h
 n6:s.XX=v.fb
 ai:s.XI=v.ob
 R5:s.YL=v.k
 kh:v.k<=v.h
 fj:oR s.fd (snaps.getD v.h []) v.h v.fb
 M7:oR s.od (snaps.getD v.k []) v.k v.ob
 ep:oh v.n s.WX now snaps
 L8:s.blocks=now
 bok:∀l∈snaps,∀b∈l,l4 b
 nok:∀b∈now,l4 b
 XS:∀p∈s.XS,0<=p.1/\p.1<=v.h/\p.2=snaps.getD p.1.toNat []
 last:fR s.XS (v.h:Int)=some (snaps.getD v.h [])
 idle:s.first=v.fb->s.WT<kN v.fb v.ob->v.x=0
 safe:0<=s.safe/\s.safe<=v.k
 sent: -1<=s.sent/\s.sent<=v.h/\(s.sent= -1->0<v.h)
 low:s.WU.2.2=[]->s.sent<=s.safe
 WT:s.WT= -1\/∃o:Nat,1<=o/\o<=v.ob/\s.WT=kN v.fb o/\(o=v.ob->s.first=v.fb)
 WU:(s.WT= -1/\s.WU=(0,0,[])/\s.WW=[])\/(0<=s.WT/\s.WU.1=s.WT/\s.WU.2.1=v.q)
 queue:(s.WU.2.2=[]/\s.WW=[])\/∃m,s.WU.2.2=[m]/\s.WW=[s.sent]/\J2 m/\0<=s.sent
 first:(s.first= -1/\s.receiver=(0,0)/\v.x=0)\/∃g:Nat,1<=g/\g<=v.fb/\s.first=g/\s.receiver=(kN g v.ob,(v.x:Int))
 act:s.WT=kN v.fb v.ob->(v.x=v.q/\(s.WU.2.2=[]->s.sent=v.k\/(s.sent= -1/\v.k<v.h))/\(∀m,s.WU.2.2=[m]->C8 v.n snaps v.k s.sent m))\/(v.x=v.q+1/\s.WU.2.2≠ []/\s.sent=v.k)
 XH:∀y∈s.XH,C9 v snaps s y
 M0:s.XH.length<=64
theorem H8:l4 aQ:=⟨by simp[aQ],fun x h=>by simp[aQ] at h;omega⟩
def Ka(n:Nat)(d1 d2:(List aR)×(List (Int×aR))×Int):PS:={ n:=n,fn:=n,YH:=0,XX:=1,blocks:=List.replicate n aQ,WX:=(0,[],[],true),XS:=[(0,List.replicate n aQ)],WT:= -1,WU:=(0,0,[]),sent:=0,safe:=0,WW:=[],on:=n,YL:=0,XI:=1,first:= -1,receiver:=(0,0),XH:=[],y7:=n,fd:=d1,o5:=n,od:=d2 }
theorem FD{n:Nat}(h0:1<=n)(h1:n<=32){d1 d2:(List aR)×(List (Int×aR))×Int}(s1:oR d1 (List.replicate n aQ) 0 1)(s2:oR d2 (List.replicate n aQ) 0 1):
  Inv ⟨n,0,1,1,0,0,0⟩ (List.replicate n aQ) [List.replicate n aQ] (Ka n d1 d2):=by
 have u:∀b∈List.replicate n aQ,l4 b:=fun b E=>by rw[List.eq_of_mem_replicate E];exact H8
 have C:=Wz (m:=n) (snaps:=[List.replicate n aQ]) ⟨h0,h1⟩ (num:=0) rfl (by decide) (fun s B=>by simp at B;subst B;simp);constructor
 case n0=>exact h0
 case n1=>exact h1
 case fj=>exact s1
 case M7=>exact s2
 case ep=>exact C
 case bok=>intro l z;simp at z;subst z;exact u
 case nok=>exact u
 case XS=>
  intro p A;simp only[Ka,aB9] at A;subst A;simp
 case last=>rfl
 case WT=>exact .inl rfl
 case WU=>exact .inl ⟨rfl,rfl,rfl⟩
 case queue=>exact .inl ⟨rfl,rfl⟩
 case first=>exact .inl ⟨rfl,rfl,rfl⟩
 case act=>intro h;simp[Ka,kN] at h
 case XH=>intro y D;simp[Ka] at D
 all_goals simp[Ka]
theorem KO{v:Nm}{now:List aR}{snaps:List (List aR)}{s:PS}(h:Inv v now snaps s){at_:Int}{b:aR}(ha:0<=at_/\at_<v.n)(hb:l4 b):
  ∃s',lO at_ b s=some (none,s')/\Inv v (now.set at_.toNat b) snaps s':=by
 have A:=h.ep.add (p:=(at_,b)) ha;have B:=Go.A6.aLl h.ep.may (p:=(at_,b)) ha;obtain⟨z,D,_⟩:=xD (l:=s.blocks) (n:=at_) ha.1 (by rw[h.L8,h.ep.bc];exact ha.2);refine⟨{ s with blocks:=s.blocks.set at_.toNat b,WX:=(s.WX.1,Go.A6.X5 s.WX.2.1 (at_,b),s.WX.2.2.1,s.WX.2.2.2) },?_,?_⟩
 ·unfold lO eY;rw[h.en,B];simp only[cM,p7,pF,D]
 ·exact { h with
   ep:=A
   L8:=by rw[<-h.L8]
   nok:=fun x u=>by
    rcases aCz u with u | rfl
    ·exact h.nok x u
    ·exact hb
   XH:=fun y C=>by
    have:=h.XH y C
    exact⟨this.bytes,this.len,this.ne,this.L9,this.whole⟩}
theorem CT{v:Nm}{now:List aR}{snaps:List (List aR)}{s:PS}(h:Inv v now snaps s){at_:Int}{b:aR}(ha:at_<0\/at_>=v.n):lO at_ b s=some (some 1,s):=by
 have u:=Go.A6.xh s.WX (v.n:Int) (at_,b) (Go.A6.fh h.ep.may);rw[XV (by rw[h.ep.may];simp),YC ha] at u;unfold lO eY;rw[h.en,u];simp only[cM,aCv,YX];rw[<-h.en]
theorem OR{v:Nm}{now:List aR}{snaps:List (List aR)}{s:PS}(h:Inv v now snaps s){at_:Int}(ha:0<=at_/\at_<v.n):oY at_ s=some (now.getD at_.toNat [],none,s):=by
 obtain⟨z,u,A⟩:=xD (l:=now) (n:=at_) ha.1 (by rw[h.ep.bc];exact ha.2);unfold oY gB;rw[h.en,h.L8,cl,O6,n9 (by omega),pF,n9 (by omega)];simp only[cM,pF,u];congr 2;rw[V7,A];rfl
theorem KP{v:Nm}{now:List aR}{snaps:List (List aR)}{s:PS}(h:Inv v now snaps s){at_:Int}(ha:at_<0\/at_>=v.n):oY at_ s=some (aQ,some 1,s):=by
 unfold oY gB;rw[h.en,cl,O6];by_cases u:at_<0
 ·rw[D5 u];simp
 ·rw[n9 u,D5 (by omega)];simp
theorem Rx{β:Type}{k j:Int}(hj:j≠k):∀m:List (Int×β),fR (Gt m k) j=fR m j
 | []=>rfl
 | (a,b)::m=>by
  have h:=Rx hj m;unfold Gt at h ⊢;simp only[L4,kp];by_cases u:a=k
  ·subst u;simp only[r7,List.eraseIdx_cons_zero,fR];rw[XV (fun e=>hj e.symm)]
  ·rw[XV u];cases hk:kp (m.map (·.1)) k with
   |none=>simp
   |some q=>
    rw[hk] at h;simp only[tw,List.eraseIdx_cons_succ,fR];split
    ·rfl
    ·exact h
theorem KQ{β:Type}{k:Int}{m:List (Int×β)}{p:Int×β}(h:p∈Gt m k):p∈m:=by
 unfold Gt at h;split at h
 ·exact List.mem_of_mem_eraseIdx h
 ·exact h
theorem It{β:Type}{j:Int}{l:β}:∀{m:List (Int×β)},fR m j=some l->(j,l)∈m
 | [],h=>by cases h
 | (a,b)::m,h=>by
  unfold fR at h;split at h
  ·rename_i e;subst e;cases h;exact dg
  ·exact cz _ (It h)
theorem Xc{β:Type}{j:Int}{l:β}:∀{m:List (Int×β)},fR m j=none->fR (m++[(j,l)]) j=some l
 | [],_=>by simp[fR]
 | (a,b)::m,h=>by
  unfold fR at h;split at h
  ·cases h
  ·rename_i e;simp only[fy,fR];rw[XV e];exact Xc h
theorem CU{n:Int}:∀(l:List (Int×aR)) (last:Int),last<n->Go.A6.ZV n last l=true->(l.length:Int)<=n - 1 - last
 | [],last,A,_=>by simp;omega
 |x::l,last,A,h=>by
  have u:=Go.A6.j0 n (x::l) last h x (by simp);have z:Go.A6.ZV n x.1 l=true:=by
   unfold Go.A6.ZV at h;split at h
   ·cases h
   ·exact h
  have:=CU l x.1 u.2 z;simp only[H6];omega
end Go.YO
namespace Go.YO
open Go Go.Sw Go.Mo Go.Pl
open Go.ZZ (oR sT)
open Go.A6 (uT Fj Ci Me)
open Go.YA (Good bM fB dQ)
theorem C8.mono{n:Nat}{snaps:List (List aR)}{cur to:Int}{m:Fm}(h:C8 n snaps cur to m)(x:List aR):C8 n (snaps++[x]) cur to m:=by
 have u:=h.lt;have z:=h.nn;have A:=h.le;refine⟨u,z,by simp;omega,h.load,h.j1,?_⟩;rw[uT (by omega),uT (by omega)];exact h.say
theorem C9.mono{v:Nm}{snaps:List (List aR)}{s s':PS}{y:Bool×Bool×List Int}(h:C9 v snaps s y)(x:List aR)(hk:v.k<snaps.length)(e1:s'.WT=s.WT)(e2:s'.WU=s.WU)(e3:s'.first=s.first)(e4:s'.receiver=s.receiver)(e5:s'.sent=s.sent)(hh:Nat):
  C9 { v with h:=hh } (snaps++[x]) s' y:=by
 refine⟨h.bytes,h.len,h.ne,h.L9,fun N=>?_⟩;obtain⟨f,P,Q,R,T⟩:=h.whole N;refine⟨f,P,Q,fun C=>?_,fun C=>?_⟩
 ·rcases R C with⟨g,u,z,A⟩|⟨S,q,m,u,z,A,B,K⟩
  ·exact .inl ⟨g,u,z,A⟩
  ·refine .inr ⟨S,q,m,u,z,?_,?_,?_⟩
   ·obtain⟨g,o,D,E,F,G,H,I⟩:=A;exact⟨g,o,D,E,F,G,by rw[e1];exact H,by rw[e3];exact I⟩
   ·rw[e1,e2];exact B
   ·rw[e3,e4];intro L M;obtain⟨U,V⟩:=K L M;exact⟨U,fun O=>by obtain⟨X,d4⟩:=V O;exact⟨X,d4.mono x⟩⟩
 ·rcases T C with⟨g,o,j,t,u,z,A,B,K,a6,a7,a8⟩|⟨S,a,u,z,A,B⟩
  ·refine .inl ⟨g,o,j,t,u,z,A,B,K,a6,?_,?_⟩
   ·rw[uT (by omega)];exact a7
   ·rw[e1,e3];exact a8
  ·refine .inr ⟨S,a,u,?_,?_,?_⟩
   ·obtain⟨g,o,D,E,F,G,H,I⟩:=z;exact⟨g,o,D,E,F,G,by rw[e1];exact H,by rw[e3];exact I⟩
   ·rw[e1,e2,e5];exact A
   ·rw[e3,e4];exact B
theorem Zw{v:Nm}{now:List aR}{snaps:List (List aR)}{s:PS}(h:Inv v now snaps s)(hb:v.h+1<=100000):
  ∃s',qU s=some (none,s')/\Inv { v with h:=v.h+1 } now (snaps++[now]) s':=by
 have o6:=h.F9;have tj:=h.kh;have m7:=h.hs;have O9:=h.n1;have ln:=h.n0;have I:s.WX.1=v.h:=by have:=h.ep.num;omega
 obtain⟨k1,k2,k3,k4,k5,F,k7,k8,k9⟩:=Go.A6.u1 h.ep.may;have K:snaps.getD v.h []∈snaps:=by
  rw[V7,J0 (by omega)];exact il _
 have L:(snaps.getD v.h []).length=v.n:=h.ep.len _ K;have aa:=CU s.WX.2.1 (-1) (by omega) F;have M:=Go.A6.j0 v.n s.WX.2.1 _ F;obtain⟨V,G,H,_⟩:=Om h.fj (by omega) (by omega) (by omega) s.WX.2.1 ((v.h+1:Nat):Int) (by omega) (by omega) (fun p u=>by have:=M p u;omega);have N:sT (snaps.getD v.h []) s.WX.2.1=now:=by
  have:=h.ep.open_;rw[I,A5] at this;exact this
 rw[N,A5] at G;rw[L] at H;have O:=Go.A6.zk h.ep.may (by omega);have aG5:fR s.XS ((v.h+1:Nat):Int)=none:=by
  cases hg:fR s.XS ((v.h+1:Nat):Int) with
  |none=>rfl
  |some l=>have:=h.XS _ (It hg);simp only at this;omega
 have E:Hr s.XS ((v.h+1:Nat):Int) now=some (s.XS++[(((v.h+1:Nat):Int),now)]):=by unfold Hr;rw[aG5]
 obtain⟨_,X⟩:=Ld (blocks:=now) s.XS (v.h+1) (by have:=h.ep.bc;omega) (by omega) (by rw[E];rfl);have P:ar .add .i64 s.YH (1:Int)=((v.h+1:Nat):Int):=by rw[h.enum,C2 (by omega)]
 refine⟨{ s with YH:=((v.h+1:Nat):Int),WX:=Ci s.WX,XS:=pY s.XS ((v.h+1:Nat):Int) now,y7:=v.n,fd:=V },?_,?_⟩
 ·unfold qU fX;rw[P,h.n6,h.aFv,H,cM];simp only[p7,pF];rw[h.efn,O,cM,h.L8];simp only[];rw[X,cM];rfl
 ·have D:(snaps++[now]).getD (v.h+1) []=now:=Fj (by omega);have Q:(snaps++[now]).getD v.k []=snaps.getD v.k []:=uT (by omega);have aE8:pY s.XS ((v.h+1:Nat):Int) now=Gt (s.XS++[(((v.h+1:Nat):Int),now)]) (((v.h+1:Nat):Int) - 5):=by unfold pY;rw[E];rfl
  exact { h with
   hs:=by simp;omega
   F9:=by simp only;omega
   enum:=rfl
   kh:=by simp only;omega
   fj:=by rw[D];exact G
   M7:=by rw[Q];exact h.M7
   aFv:=rfl
   ep:=h.ep.shut (by omega)
   bok:=fun l z=>by
    rcases S9.1 z with z | z
    ·exact h.bok l z
    ·simp at z;subst z;exact h.nok
   XS:=fun p u=>by
    simp only at u ⊢;rw[aE8] at u;rcases S9.1 (KQ u) with u | u
    ·obtain⟨A,C,B⟩:=h.XS p u;exact⟨A,by omega,by rw[uT (by omega)];exact B⟩
    ·simp only[aB9] at u;subst u;exact⟨by simp only;omega,by simp only;omega,by simp only;rw[A5,D]⟩
   last:=by
    simp only;rw[aE8,Rx (by omega),Xc aG5,D]
   sent:=by have:=h.sent;simp only;omega
   act:=fun R=>by
    rcases h.act R with⟨A,C,B⟩|⟨A,C,B⟩
    ·refine .inl ⟨A,fun S=>?_,fun m T=>(B m T).mono now⟩;rcases C S with c |⟨c1,c2⟩
     ·exact .inl c
     ·exact .inr ⟨c1,by simp only;omega⟩
    ·exact .inr ⟨A,C,B⟩
   XH:=fun y U=>by
    refine C9.mono (s:=s) (h.XH y U) now (by omega) ?_ ?_ ?_ ?_ ?_ (v.h+1)<;>rfl }
def I9(a:Int):Prop:= -9223372036854775808<=a/\a<=9223372036854775807
theorem KR{a:Int}(h:I9 a):∃k:Nat,max a (IntKind.wrap .i64 (0 - (ar .add .i64 a (1:Int))))=(k:Int)/\(a=0->k=0):=by
 unfold I9 at h;by_cases u:a=9223372036854775807
 ·subst u;have z:ar .add .i64 (9223372036854775807:Int) 1= -9223372036854775808:=by decide+kernel
  have A:IntKind.wrap .i64 (0 - (-9223372036854775808:Int))= -9223372036854775808:=by decide+kernel
  rw[z,A];exact⟨9223372036854775807,by omega,fun c=>by omega⟩
 ·rw[p5 (by omega),wrap_i64 (by omega)];exact⟨(max a (0 - (a+1))).toNat,by omega,fun c=>by omega⟩
theorem C9.same{v:Nm}{snaps:List (List aR)}{s s':PS}{y:Bool×Bool×List Int}(h:C9 v snaps s y)(e1:s'.WT=s.WT)(e2:s'.WU=s.WU)(e3:s'.first=s.first)(e4:s'.receiver=s.receiver)(e5:s'.sent=s.sent):C9 v snaps s' y:=by
 refine⟨h.bytes,h.len,h.ne,h.L9,fun z=>?_⟩;obtain⟨f,A,B,C,D⟩:=h.whole z;refine⟨f,A,B,fun u=>?_,fun u=>?_⟩
 ·have:=C u;unfold Dy tL at this ⊢;rw[e1,e2,e3,e4];exact this
 ·have:=D u;unfold Fl tL at this ⊢;rw[e1,e2,e3,e4,e5];exact this
variable {v:Nm}{now:List aR}{snaps:List (List aR)}{s:PS}
theorem Inv.T6(h:Inv v now snaps s){l:List (Bool×Bool×List Int)}(hl:l.length<=64)(hm:∀y∈l,C9 v snaps s y):Inv v now snaps { s with XH:=l }:=
 { h with
  XH:=fun y u=>(hm y u).same rfl rfl rfl rfl rfl
  M0:=hl }
theorem Dz(h:Inv v now snaps s){a:Int}(ha:I9 a):(s.XH=[]/\jT a s=some (0,false,s))\/∃i:Nat,i<s.XH.length/\jT a s=some ((i:Int),true,s)/\
  (∀b0 b1 b2 b3 b4 b5 b6 b7 b8 b9 YG YF YN YB YK YE YJ YW YV YU YT,cD a b0 b1 b2 b3 b4 b5 b6 b7 b8 b9 YG YF YN YB YK YE YJ s.XH YW YV YU YT=some ((i:Int),true))/\(a=0->i=0):=by
 by_cases u:s.XH=[]
 ·refine .inl ⟨u,?_⟩;unfold jT cD;rw[u];rfl
 ·right;have A:0<s.XH.length:=sb.2 u;obtain⟨k,C,D⟩:=KR ha;have z:∀b0 b1 b2 b3 b4 b5 b6 b7 b8 b9 YG YF YN YB YK YE YJ YW YV YU YT,cD a b0 b1 b2 b3 b4 b5 b6 b7 b8 b9 YG YF YN YB YK YE YJ s.XH YW YV YU YT=some (((k % s.XH.length:Nat):Int),true):=by
   intros
   unfold cD;rw[ce,n9 (by omega),pF,C];have B:nz ((s.XH.length:Nat):Int)=some ():=(by unfold nz;rw[XV (by omega)]);rw[B,cM];rfl
  refine⟨k % s.XH.length,pz _ A,?_,z,fun c=>by rw[D c];exact Nat.zero_mod _⟩;unfold jT;rw[z];rfl
theorem Tv{α:Type}(l:List α)(i:Nat)(hi:i<l.length):Sw.del l (i:Int) ((i+1:Nat):Int)=some (l.take i++l.drop (i+1)):=by
 unfold Sw.del Sw.sub;rw[YC (by omega)];simp
theorem Kb{l:List (Bool×Bool×List Int)}(hl:l.length<=1000):dD l=some l:=by
 unfold dD;rw[WV _ _ (by simp;omega)];rfl
theorem OS(h:Inv v now snaps s){a:Int}(ha:I9 a):∃s',rK a s=some (none,s')/\Inv v now snaps s':=by
 rcases Dz h ha with⟨C,u⟩|⟨i,A,u,B,D⟩
 ·refine⟨{ s with XH:=s.XH },?_,h⟩;unfold jT at u;unfold rK gC;cases hq:cD a s.n s.fn s.YH s.XX s.blocks s.WX s.XS s.WT s.WU s.sent s.safe s.WW s.on s.YL s.XI s.first s.receiver s.XH s.y7 s.fd s.o5 s.od with
  |none=>rw[hq] at u;cases u
  |some q=>
   rw[hq] at u;simp only[cM,E4,V5] at u;simp only[cM,jp,u.2.1,pF]
 ·refine⟨{ s with XH:=s.XH.take i++s.XH.drop (i+1) },?_,h.T6 (by have:=h.M0;simp;omega) (fun y z=>h.XH y (by
   rcases S9.1 z with z | z
   ·exact aCp z
   ·exact aDs z))⟩
  unfold rK gC cH;rw[B,cM];simp only[jp,YX];rw[Kb (by have:=h.M0;omega),cM,C2 (by have:=h.M0;omega),Tv _ _ A];rfl
theorem FE(h:Inv v now snaps s){a:Int}(ha:I9 a):∃s',lQ a s=some (none,s')/\Inv v now snaps s':=by
 rcases Dz h ha with⟨E,u⟩|⟨i,B,u,A,F⟩
 ·refine⟨{ s with XH:=s.XH },?_,h⟩;unfold jT at u;unfold lQ eS;cases hq:cD a s.n s.fn s.YH s.XX s.blocks s.WX s.XS s.WT s.WU s.sent s.safe s.WW s.on s.YL s.XI s.first s.receiver s.XH s.y7 s.fd s.o5 s.od with
  |none=>rw[hq] at u;cases u
  |some q=>
   rw[hq] at u;simp only[cM,E4,V5] at u;simp only[cM,jp,u.2.1,pF]
 ·have C:=h.M0;by_cases D:s.XH.length<64
  ·refine⟨{ s with XH:=s.XH++[s.XH[i]] },?_,h.T6 (by simp;omega) (fun y z=>h.XH y (by
    rcases S9.1 z with z | z
    ·exact z
    ·simp at z;subst z;exact il _))⟩
   unfold lQ eS;rw[A,cM];simp only[jp,YX,cl];rw[D5 (by omega),cM,YX,sG (J0 B),cM,WV _ _ (by simp;omega)];rfl
  ·refine⟨{ s with XH:=s.XH },?_,h⟩;unfold lQ eS;rw[A,cM];simp only[jp,YX,cl];rw[n9 (by omega)];simp only[cM,pF]
end Go.YO
namespace Go.YO
open Go Go.Sw Go.Mo Go.Pl
open Go.YA (Good bM fB dQ)
variable {v:Nm}{now:List aR}{snaps:List (List aR)}{s:PS}
theorem WI:∀a:Fin 256,ar .or .u8 ((a.1:Nat):Int) 1=((a.1 ||| 1:Nat):Int):=by decide+kernel
theorem VS{b:Int}(h:0<=b/\b<=255):ar .or .u8 b 1=((b.toNat ||| 1:Nat):Int):=by
 have:=WI ⟨b.toNat,by omega⟩;simp only at this;rw[<-this];congr 1;omega
theorem FG{a b:Nat}(ha:a<256)(hb:b<256):a ^^^ (b ||| 1)≠a/\a ^^^ (b ||| 1)<256:=by
 have z:b ||| 1<2 ^ 8:=aD3 (by simpa using hb) (by decide)
 have A:a ^^^ (b ||| 1)<2 ^ 8:=aCd (by simpa using ha) z;refine⟨fun h=>?_,by simpa using A⟩;have B:b ||| 1=0:=by
  have this:a ^^^ (a ^^^ (b ||| 1))=a ^^^ a:=by rw[h]
  rw[<-Nat.xor_assoc,Nat.xor_self,Nat.zero_xor] at this;exact this
 have u:(b ||| 1).testBit 0=true:=by rw[Nat.testBit_or];simp
 rw[B] at u;simp at u
theorem FH(h:Inv v now snaps s){d:Int×Int×Int×aR}(h1:I9 d.2.1)(h2:I9 d.2.2.1)(h3:l4 d.2.2.2):∃s',lR d s=some (none,s')/\Inv v now snaps s':=by
 rcases Dz h h1 with⟨hn,A⟩|⟨i,L,A,M,ac⟩
 ·refine⟨{ s with XH:=s.XH },?_,h⟩;unfold jT at A;unfold lR eT;cases hq:cD d.2.1 s.n s.fn s.YH s.XX s.blocks s.WX s.XS s.WT s.WU s.sent s.safe s.WW s.on s.YL s.XI s.first s.receiver s.XH s.y7 s.fd s.o5 s.od with
  |none=>rw[hq] at A;cases A
  |some q=>
   rw[hq] at A;simp only[cM,E4,V5] at A;simp only[cM,A.2.1,yd,YX]
 ·have hl:=h.M0;have E:=sG (J0 L);have B:=h.XH _ (il L);generalize hy:s.XH[i]=y at E B;by_cases C:y.2.1=true
  ·refine⟨{ s with XH:=s.XH },?_,h⟩;unfold lR eT;rw[M,cM];simp only[lu,pF,E,cM,C,YX]
  ·have C:y.2.1=false:=(by simpa using C);obtain⟨f,g1,I,_,_⟩:=B.whole C;have N:=B.len;have O:0<y.2.2.length:=sb.2 B.ne;obtain⟨k,hk,_⟩:=KR h2;have D:k % y.2.2.length<y.2.2.length:=pz _ O;have H:=B.bytes (y.2.2[k % y.2.2.length]) (il D);obtain⟨b0,K⟩:∃b0,d.2.2.2[0]? =some b0:=⟨_,J0 (by have:=h3.1;omega)⟩;have P:=h3.2 b0 (aB7 K);have Q:Sw.idx d.2.2.2 (0:Int)=some b0:=sG (i:=0) K;generalize jd:y.2.2[k % y.2.2.length]=z at H;have R:Sw.idx y.2.2 ((k % y.2.2.length:Nat):Int)=some z:=sG (by rw[<-jd];exact J0 D);have hx:=FG (a:=z.toNat) (b:=b0.toNat) (by omega) (by omega);have S:ar .or .u8 b0 1=((b0.toNat ||| 1:Nat):Int):=VS P;have ab:b0.toNat ||| 1<2 ^ 8:=aD3 (by omega) (by decide)
   have T:ar .xor .u8 z ((b0.toNat ||| 1:Nat):Int)=((z.toNat ^^^ (b0.toNat ||| 1):Nat):Int):=by
    rw[Go.YA.aWm H (by omega),A5]
   obtain⟨w,hw⟩:∃w:Int,w=((z.toNat ^^^ (b0.toNat ||| 1):Nat):Int):=⟨_,rfl⟩;have F:Bytes (y.2.2.set (k % y.2.2.length) w):=fun x u=>by
    rcases aCz u with u | rfl
    ·exact B.bytes x u
    ·omega
   have U:C9 v snaps s (y.1,true,y.2.2.set (k % y.2.2.length) w):=by
    refine⟨F,by simp only[aCs];exact N,fun G=>by have:=congrArg List.length G;simp only[aCs,ak] at this;omega,fun _=>?_,fun hf=>by cases hf⟩;simp only[I] at F D ⊢;have V:Bytes ((bM f).set (k % (bM f).length) w):=F;refine Go.YA.L9 g1 D (by omega) (fun G=>?_) V;have:(bM f)[k % (bM f).length]=z:=(by rw[<-jd];simp only[I]);rw[this] at G;omega
   refine⟨{ s with XH:=s.XH.set i (y.1,true,y.2.2.set (k % y.2.2.length) w) },?_,h.T6 (by simp;omega) (fun x u=>?_)⟩
   ·unfold lR eT nM;rw[M,cM];have X:nz ((y.2.2.length:Nat):Int)=some ():=(by unfold nz;rw[XV (by omega)]);have aa:ar .rem .i64 (k:Int) (y.2.2.length:Int)=((k % y.2.2.length:Nat):Int):=rfl;simp only[lu,pF,E,cM,C];rw[WV _ _ (by simp;omega),Z1,cM,X,cM,hk,aa,R,cM,Q,cM];simp only[cM,S,T,<-hw,A5]
   ·rcases aCz u with u | rfl
    ·exact h.XH x u
    ·exact U
end Go.YO
namespace Go.YO
open Go Go.Sw Go.Mo Go.Pl
open Go.ZZ (oR)
open Go.YA (Good bM fB dQ)
variable {v:Nm}{now:List aR}{snaps:List (List aR)}{s:PS}
theorem wC(a b:Nat):0<=kN a b:=by unfold kN;omega
theorem FI(h:Inv v now snaps s)(hb:v.fb+1<=3000)(a1:Int×Int×Int×aR):
  ∃s',kY a1 s.n s.fn s.YH s.XX s.blocks s.WX s.XS s.WT s.WU s.sent s.safe s.WW s.on s.YL s.XI s.first s.receiver s.XH s.y7 s.fd s.o5 s.od=some (aQ,none,XU s')/\s'.XH=s.XH/\
   Inv { v with fb:=v.fb+1,q:=0 } (snaps.getD v.h []) snaps s':=by
 have o6:=h.F9;have tj:=h.kh;have P:=h.hs;have Q:=h.n1;have R:=h.n0;have K:snaps.getD v.h []∈snaps:=by
  rw[V7,J0 (by omega)];exact il _
 have T:(snaps.getD v.h []).length=v.n:=h.ep.len _ K;have L:=Wy h.fj (by omega) (by omega);obtain⟨X,sn,_,N⟩:=Ip h.fj (by omega) (by omega) (by omega) (by omega);rw[T] at L N;refine⟨{ s with fn:=v.n,YH:=(v.h:Int),XX:=((v.fb+1:Nat):Int),blocks:=snaps.getD v.h [],WX:=((v.h:Int),[],[],true),XS:=[((v.h:Int),snaps.getD v.h [])],WT:= -1,WU:=(0,0,[]),sent:=0,safe:=0,WW:=[],y7:=v.n,fd:=X },?_,rfl,?_⟩
 ·unfold kY;rw[h.aFv,h.en,L,cM];simp only[vF,kr,YX,jp];rw[N,cM];rfl
 ·exact { h with
   F9:=by simp only;omega
   pos:=by have:=h.pos;simp only;omega
   efn:=rfl
   enum:=rfl
   n6:=rfl
   fj:=sn
   aFv:=rfl
   ep:=Wz ⟨R,Q⟩ P (by omega) h.ep.len
   L8:=rfl
   nok:=h.bok _ K
   XS:=fun p M=>by
    simp only[aB9] at M;subst M;exact⟨by simp only;omega,by simp only;omega,by simp only;rw[A5]⟩
   low:=fun _=>aDo _
   last:=by simp only;unfold fR;simp[kp]
   idle:=fun c=>by
    simp only at c;rcases h.first with⟨H,_⟩|⟨g,H,c2,O,_⟩<;>omega
   safe:=by simp only;omega
   sent:=by simp only;omega
   WT:= .inl rfl
   WU:= .inl ⟨rfl,rfl,rfl⟩
   queue:= .inl ⟨rfl,rfl⟩
   first:=by
    rcases h.first with c |⟨g,H,c2,O,c4⟩
    ·exact .inl c
    ·exact .inr ⟨g,H,by simp only;omega,O,c4⟩
   act:=fun U=>by have:=wC (v.fb+1) v.ob;simp only at U;omega
   XH:=fun y u=>by
    have u:=h.XH y u;refine⟨u.bytes,u.len,u.ne,u.L9,fun V=>?_⟩;obtain⟨f,g1,g2,g3,g4⟩:=u.whole V;refine⟨f,g1,g2,fun hb=>?_,fun hb=>?_⟩
    ·rcases g3 hb with⟨g,a1,z,A⟩|⟨S,q,m,a1,z,A,B,I⟩
     ·exact .inl ⟨g,a1,by simp only;omega,A⟩
     ·obtain⟨g,o,C,D,E,F,b5,G⟩:=A;refine .inr ⟨S,q,m,a1,z,⟨g,o,C,D,E,F,.inl (by simp only;omega),G⟩,fun c=>?_,I⟩;have:=wC g o;simp only at c;omega
    ·rcases g4 hb with⟨g,o,j,t,a1,z,A,B,I,a6,a7,a8⟩|⟨S,a,a1,z,A,B⟩
     ·exact .inl ⟨g,o,j,t,a1,z,by simp only;omega,B,I,a6,a7,fun c=>by simp only at c;omega⟩
     ·obtain⟨g,o,C,D,E,F,b5,G⟩:=z;refine .inr ⟨S,a,a1,⟨g,o,C,D,E,F,.inl (by simp only;omega),G⟩,fun c=>?_,B⟩
      have:=wC g o;simp only at c;omega }
theorem FJ(h:Inv v now snaps s)(hb:v.ob+1<=3000)(a1:Int×Int×Int×aR):
  ∃s',kL a1 s.n s.fn s.YH s.XX s.blocks s.WX s.XS s.WT s.WU s.sent s.safe s.WW s.on s.YL s.XI s.first s.receiver s.XH s.y7 s.fd s.o5 s.od=some (aQ,none,XU s')/\s'.XH=s.XH/\
   Inv { v with ob:=v.ob+1,x:=0 } now snaps s':=by
 have o6:=h.F9;have tj:=h.kh;have m7:=h.hs;have O9:=h.n1;have ln:=h.n0;have M:snaps.getD v.k []∈snaps:=by
  rw[V7,J0 (by omega)];exact il _
 have N:(snaps.getD v.k []).length=v.n:=h.ep.len _ M;have I:=Wy h.M7 (by omega) (by omega);obtain⟨P,Q,_,K⟩:=Iq h.M7 (by omega) (by omega) (by omega) (by omega);rw[N] at I K;refine⟨{ s with on:=v.n,YL:=(v.k:Int),XI:=((v.ob+1:Nat):Int),first:= -1,receiver:=(0,0),o5:=v.n,od:=P },?_,rfl,?_⟩
 ·unfold kL;rw[h.rr,h.en,I,cM];simp only[vF,kr,YX,jp];rw[K,cM];rw[<-h.en];rfl
 ·exact { h with
   F9:=by simp only;omega
   pos:=by have:=h.pos;simp only;omega
   eon:=rfl
   R5:=rfl
   ai:=rfl
   M7:=Q
   rr:=rfl
   WT:=by
    rcases h.WT with c |⟨o,L,c2,H,c4⟩
    ·exact .inl c
    ·exact .inr ⟨o,L,by simp only;omega,H,fun c=>by simp only at c;omega⟩
   first:= .inl ⟨rfl,rfl,rfl⟩
   idle:=fun _ _=>rfl
   act:=fun C=>by
    simp only at C;rcases h.WT with c |⟨o,L,c2,H,c4⟩
    ·have:=wC v.fb (v.ob+1);omega
    ·rw[H] at C;have:=(tD (by omega) (by omega) C).2;omega
   XH:=fun y u=>by
    have u:=h.XH y u;refine⟨u.bytes,u.len,u.ne,u.L9,fun O=>?_⟩;obtain⟨f,R,T,U,V⟩:=u.whole O;refine⟨f,R,T,fun hb=>?_,fun hb=>?_⟩
    ·rcases U hb with⟨g,a1,z,A⟩|⟨S,q,m,a1,z,A,B,a5⟩
     ·exact .inl ⟨g,a1,z,A⟩
     ·obtain⟨g,o,D,E,F,X,G,b6⟩:=A;refine .inr ⟨S,q,m,a1,z,⟨g,o,D,E,F,by simp only;omega,G,fun c=>by simp only at c;omega⟩,B,fun c=>?_⟩;simp only at c;omega
    ·rcases V hb with⟨g,o,j,t,a1,z,A,B,a5,a6,a7,a8⟩|⟨S,a,a1,z,A,B⟩
     ·exact .inl ⟨g,o,j,t,a1,z,A,B,by simp only;omega,a6,a7,fun _ c=>by simp only at c;omega⟩
     ·obtain⟨g,o,D,E,F,X,G,b6⟩:=z;refine .inr ⟨S,a,a1,⟨g,o,D,E,F,by simp only;omega,G,fun c=>by simp only at c;omega⟩,A,fun c=>?_⟩
      simp only at c;omega }
end Go.YO
namespace Go.YO
open Go Go.Sw Go.Mo Go.Pl
open Go.ZZ (oR)
open Go.YA (Good bM fB dQ eB qT Fk fJ pX rJ jO Jy Oj nG Jz)
variable {v:Nm}{now:List aR}{snaps:List (List aR)}{s:PS}
def mH(l:List (Bool×Bool×List Int))(y:Bool×Bool×List Int):List (Bool×Bool×List Int):=if l.length<64 then l++[y] else l
def Tw(s s':PS):Prop:=s'.XH=s.XH\/∃y,s'.XH=mH s.XH (false,y)
theorem Ry{l:List (Bool×Bool×List Int)}{y}(h:l.length<=64):(mH l y).length<=64:=by
 unfold mH;split
 ·simp;omega
 ·exact h
theorem FK{l:List (Bool×Bool×List Int)}{x y}(h:x∈mH l y):x∈l\/x=y:=by
 unfold mH at h;split at h
 ·simpa using h
 ·exact .inl h
theorem m4{f:Fm}(g:Good f):bM f≠ []/\(bM f).length<=1004:=by
 have z:=(rJ g).2;have u:(bM f).length=(Go.YA.body f).length+4:=by unfold bM;rw[sM];unfold Go.YA.D8;simp
 exact⟨fun h=>by rw[h] at u;simp at u,by omega⟩
theorem Iu(dir:Bool)(b:List Int)(b0 b1 b2 b3 b4 b5 b6 b7 b8 b9 YG YF YN YB YK YE YJ XZ YW YV YU YT)(hl:XZ.length<=64):
  eQ dir (false,b) b0 b1 b2 b3 b4 b5 b6 b7 b8 b9 YG YF YN YB YK YE YJ XZ YW YV YU YT=some (mH XZ (dir,false,b)):=by
 unfold eQ mH;simp only[yd,YX,cM];by_cases h:XZ.length<64
 ·have:cm .lss (XZ.length:Int) (64:Int)=true:=by rw[cl];exact D5 (by omega)
  rw[this,YC h,YX,WV _ _ (by simp;omega),cM]
 ·have:cm .lss (XZ.length:Int) (64:Int)=false:=by rw[cl];exact n9 (by omega)
  rw[this,XV h,pF]
theorem Tx{f:Fm}(g:Good f)(he:eB f=0)(dir:Bool)(b0 b1 b2 b3 b4 b5 b6 b7 b8 b9 YG YF YN YB YK YE YJ XZ YW YV YU YT)(hl:XZ.length<=64):
  iZ dir f b0 b1 b2 b3 b4 b5 b6 b7 b8 b9 YG YF YN YB YK YE YJ XZ YW YV YU YT=some (none,mH XZ (dir,false,bM f)):=by
 unfold iZ;rw[Fk g he,cM];have h:IF (bM f)=some ():=by
  unfold IF;have:=(m4 g).1;cases hp:bM f with
  |nil=>exact absurd hp this
  |cons a l=>rfl
 simp only[jp,kr,YX];rw[h,cM,Iu _ _ _ _ _ _ _ _ _ _ _ _ _ _ _ _ _ _ _ _ _ _ _ _ hl];rfl
theorem Inv.push(h:Inv v now snaps s){y:Bool×Bool×List Int}(hy:C9 v snaps s y):Inv v now snaps { s with XH:=mH s.XH y }:=
 h.T6 (Ry h.M0) (fun x u=>by
  rcases FK u with u | rfl
  ·exact h.XH x u
  ·exact hy)
theorem Fo{f:Fm}(g:Good f)(dir:Bool)(h1:dir=true->Dy v snaps s f)(h2:dir=false->Fl v snaps s f):C9 v snaps s (dir,false,bM f):=
 ⟨pX g,by have:=(m4 g).2;simp only;omega,(m4 g).1,fun h=>(nomatch h),fun _=>⟨f,g,rfl,h1,h2⟩⟩
theorem On{g:Nat}(h:g<=2147483647):eB (jV g)=0/\Good (jV g):=by
 have z:dQ (jV g)=0:=Mh (by unfold jV;simp only;omega) (by unfold jV;simp) (by unfold jV;simp) (fun x u=>by simp only[jV,aB9] at u;subst u;omega);have:=(Go.YA.A3 z).1;exact⟨this,qT this (fun b A=>by simp[jV] at A)⟩
theorem H2{S:Int}{q:Nat}{m:Fm}(hm:J2 m)(hS:0<=S/\S<=2147483647)(hq:q<=2147483647):Good (XW S q m):=by
 obtain⟨u,z⟩:=Go.YA.A3 hm.load;have g:=qT u hm.j1;refine⟨by unfold XW;simp,by unfold XW;simp,by unfold XW;simp;omega,g.bs,fun n h=>?_,g.j1⟩;simp only[XW,fy,Z1,B1] at h;rcases h with rfl | rfl | rfl | h
 ·exact hS
 ·omega
 ·have:=g.s0;have:=g.s1;omega
 ·exact g.num n h
theorem FM(h:Inv v now snaps s)(hS:0<=s.WT)(hq:s.WU.2.2=[])(hs:s.sent<v.h){m:Fm}(hm:J2 m)(hn:∀cur:Int,0<=cur->cur<v.h->(s.sent= -1\/cur=s.sent)->C8 v.n snaps cur v.h m):
  Inv v now snaps { s with WU:=(s.WT,(v.q:Int),[m]),sent:=(v.h:Int),WW:=[(v.h:Int)] }:=by
 have P:=h.F9
 exact { h with
  sent:=by simp only;omega
  WU:= .inr ⟨hS,rfl,rfl⟩
  low:=fun c=>by simp at c
  queue:= .inr ⟨m,rfl,rfl,hm,by simp only;omega⟩
  act:=fun G=>by
   rcases h.act G with⟨A,z,B⟩|⟨A,z,B⟩
   ·refine .inl ⟨A,fun c=>by simp at c,fun E F=>?_⟩;simp only[aC0,aEi] at F;subst F;rcases z hq with c |⟨N,Q⟩
    ·exact hn v.k (by omega) (by omega) (.inr c.symm)
    ·exact hn v.k (by omega) (by omega) (.inl N)
   ·exact absurd hq z
  XH:=fun y u=>by
   have u:=h.XH y u;refine⟨u.bytes,u.len,u.ne,u.L9,fun H=>?_⟩;obtain⟨f,I,K,L,M⟩:=u.whole H;refine⟨f,I,K,fun C=>?_,fun C=>?_⟩
   ·rcases L C with c |⟨S,q,E,A,z,B,D,O⟩
    ·exact .inl c
    ·refine .inr ⟨S,q,E,A,z,B,fun c=>?_,O⟩;rcases D c with c |⟨_,c⟩
     ·exact .inl c
     ·rw[hq] at c;simp at c
   ·rcases M C with c |⟨S,a,A,z,B,D⟩
    ·exact .inl c
    ·refine .inr ⟨S,a,A,z,fun c=>?_,D⟩;rcases B c with c |⟨_,c,_⟩
     ·exact .inl c
     ·exact absurd hq c }
theorem Mi{v:Nm}{now:List aR}{snaps:List (List aR)}{s:PS}(h:Inv v now snaps s):s.WT<=2147483647:=by
 have z:=h.F9;rcases h.WT with c |⟨o,A,B,u,C⟩
 ·omega
 ·rw[u];unfold kN;omega
theorem Qa(h:Inv v now snaps s)(hS:0<=s.WT){m:Fm}(hq:s.WU.2.2=[m])(hm:J2 m):Dy v snaps s (XW s.WT v.q m):=by
 have L:=h.F9;rcases h.WT with c |⟨o,D,E,u,F⟩
 ·omega
 ·refine .inr ⟨_,_,m,rfl,hm,⟨v.fb,o,u,h.pos.1,D,E,.inr ⟨rfl,by omega⟩,fun e=>by rw[F e];exact aDo _⟩,fun _=> .inr ⟨rfl,hq⟩,fun M z=>?_⟩;rcases h.first with⟨G,_⟩|⟨g,G,O,P,H⟩
  ·omega
  ·rw[H] at z;simp only at z;have A:=z;rw[u] at A;obtain⟨N,C⟩:=tD (by omega) (by omega) A;rw[C] at u;rcases h.act u with⟨I,K,B⟩|⟨I,K,B⟩
   ·exact⟨by omega,fun _=>⟨_,B m hq⟩⟩
   ·exact⟨by omega,fun c=>by omega⟩
end Go.YO
namespace Go.YO
open Go Go.Sw Go.Mo Go.Pl
open Go.ZZ (oR)
open Go.YA (Good bM fB dQ eB qT Fk fJ pX rJ jO Jy Oj nG Jz)
variable {v:Nm}{now:List aR}{snaps:List (List aR)}{s:PS}
def RL(v:Nm)(s s':PS):Prop:=s'.first=s.first/\s'.WT=s.WT/\
 ((s.WT<0/\s'.XH=mH s.XH (true,false,bM (jV v.fb)))\/
  (0<=s.WT/\s'.WU.2.2=[]/\s'.sent=v.h/\s'.XH=mH s.XH (true,false,bM (jV v.fb)))\/
  (0<=s.WT/\∃m,s'.WU.2.2=[m]/\J2 m/\(s.WU.2.2=[]->s'.sent=v.h)/\s'.XH=mH (mH s.XH (true,false,bM (jV v.fb))) (true,false,bM (XW s.WT v.q m))))
theorem CV(h:Inv v now snaps s):∃s',fU s=some (none,s')/\Inv v now snaps s'/\RL v s s':=by
 have o6:=h.F9;have F:=h.M0;obtain⟨he,hg⟩:=On (g:=v.fb) (by omega);have I:Inv v now snaps { s with XH:=mH s.XH (true,false,bM (jV v.fb)) }:=
  h.push (Fo hg true (fun _=> .inl ⟨v.fb,h.pos.1,ZY _,rfl⟩) (fun c=>nomatch c))
 have U:=Ry (y:=(true,false,bM (jV v.fb))) F;have K:=Tx hg he true;have th:=Mi h;rcases h.WU with⟨E,c2,c3⟩|⟨E,c2,c3⟩
 ·
  refine⟨{ s with XH:=mH s.XH (true,false,bM (jV v.fb)) },?_,I,rfl,rfl,.inl ⟨by omega,rfl⟩⟩;unfold fU dI;rw[h.n6];have A:((2:Int),([(v.fb:Int)]:List Int),([]:List aR))=jV v.fb:=rfl;rw[A,K _ _ _ _ _ _ _ _ _ _ _ _ _ _ _ _ _ _ _ _ _ _ F,cM];have G:cm .lss s.WT (0:Int)=true:=by rw[cl];exact D5 (by omega)
  simp only[p7,pF,cM,G,YX]
 ·have G:cm .lss s.WT (0:Int)=false:=by rw[cl];exact n9 (by omega)
  have B:s.WU=(s.WT,(v.q:Int),s.WU.2.2):=by rw[<-c2,<-c3]
  have V:∀(s2:PS) (m:Fm),Inv v now snaps s2->s2.WT=s.WT->s2.WU=(s.WT,(v.q:Int),[m])->J2 m->
    ∃s3,s3={ s2 with XH:=mH s2.XH (true,false,bM (XW s.WT v.q m)) }/\Inv v now snaps s3:=by
   intro s2 m hi C e4 u;refine⟨_,rfl,hi.push (Fo (H2 u (by omega) (by omega)) true (fun _=>?_) (fun c=>nomatch c))⟩;have:=Qa hi (by rw[C];exact E) (m:=m) (by rw[e4]) u;rw[C] at this;exact this
  have X:∀(m:Fm) (k:List (Bool×Bool×List Int)->Option ((Option Int)×(Int×Int×(List (Int×(List Int)×(List aR))))×Int×(List Int)×(List (Bool×Bool×(List Int))))) (b0 b1 b2 b3 b4 b5 b6 b7 b8 b9 YG YF YN YB YK YE YJ YW YV YU YT) (D:List (Bool×Bool×List Int)),D.length<=64->J2 m->
    lp (β:=(List (Bool×Bool×(List Int)))) (fun (H:Int×(List (Bool×Bool×(List Int))))=>
      bif (cm .lss H.1 (([bM (XW s.WT v.q m)]:List (List Int)).length:Int)) then
       (Sw.idx [bM (XW s.WT v.q m)] H.1).bind fun ab=>
        (IF ab).bind fun _=>
         (eQ true (false,ab) b0 b1 b2 b3 b4 b5 b6 b7 b8 b9 YG YF YN YB YK YE YJ H.2 YW YV YU YT).bind fun zd=>
          some (.next ((ar .add .i64 H.1 (1:Int)),zd))
      else
       some (.done (.XT H.2))
      ) ((0:Int),D) k=k (mH D (true,false,bM (XW s.WT v.q m))):=by
   intro m k b0 b1 b2 b3 b4 b5 b6 b7 b8 b9 YG YF YN YB YK YE YJ YW YV YU YT D ln u;have ac:=H2 u (S:=s.WT) (q:=v.q) (by omega) (by omega);obtain⟨p1,p2⟩:=m4 ac;have j5:IF (bM (XW s.WT v.q m))=some ():=by
    unfold IF;cases hp:bM (XW s.WT v.q m) with
    |nil=>exact absurd hp p1
    |cons a l=>rfl
   unfold lp;rw[show fL=1125899906842622+1+1 from rfl,Go.YA.m5 (y:=((1:Int),mH D (true,false,bM (XW s.WT v.q m)))),Go.YA.ZX (b:= .XT (mH D (true,false,bM (XW s.WT v.q m))))]
   ·rfl
   ·have:Sw.idx [bM (XW s.WT v.q m)] (0:Int)=some (bM (XW s.WT v.q m)):=rfl;simp only[cl,aCw];rw[D5 (by omega),YX,this,cM,j5,cM,Iu _ _ _ _ _ _ _ _ _ _ _ _ _ _ _ _ _ _ _ _ _ _ _ _ ln,cM];rfl
  have aa:∀m,J2 m->pL (s.WT,(v.q:Int),[m])=some ([bM (XW s.WT v.q m)],none):=by
   intro m u;have O:=nG (S:=s.WT) (q:=(v.q:Int)) (l:=[m]) (by omega) (by omega) (by simp) (fun f M=>by simp at M;subst M;exact u.load);rw[Oj O (by omega) u.load u.j1];have:Go.YA.XW (s.WT,(v.q:Int),[m]) 0 m=XW s.WT v.q m:=(by unfold Go.YA.XW XW;simp);rw[this]
  rcases h.queue with⟨z,d2⟩|⟨m,z,d2,N,d4⟩
  ·
   rw[z] at B;by_cases L:s.sent<v.h
   ·
    obtain⟨m,n1,R⟩:=OQ h.ep h.n0 h.n1 h.hs (by omega) h.bok (fun j l hl=>by have:=h.XS _ (It hl);simpa using this) h.last (k:=s.sent) ⟨h.sent.1,L⟩;have u:J2 m:=by
     have:=h.sent;by_cases c:s.sent= -1
     ·have:=R 0 (by omega) (by omega) (.inl c);exact⟨this.load,this.j1⟩
     ·have:=R s.sent (by omega) (by omega) (.inr rfl);exact⟨this.load,this.j1⟩
    have h2:=FM I E z L u R;obtain⟨s3,C,T⟩:=V _ m h2 rfl rfl u;subst C;refine⟨_,?_,T,rfl,rfl,.inr (.inr ⟨E,m,rfl,u,fun _=>rfl,rfl⟩)⟩;unfold fU dI;rw[h.n6];have A:((2:Int),([(v.fb:Int)]:List Int),([]:List aR))=jV v.fb:=rfl;rw[A,K _ _ _ _ _ _ _ _ _ _ _ _ _ _ _ _ _ _ _ _ _ _ F,cM];have P:cm .lss s.sent s.YH=true:=(by rw[cl,h.enum];exact D5 L);have Q:cm .eql (s.WU.2.2.length:Int) (0:Int)=true:=(by rw[z];rfl);simp only[p7,pF,cM,G,P,Q,YX,jp];rw[h.efn,h.enum,n1,cM,B,Jz (by omega) (by omega) u.load,cM];simp only[p7,pF];rw[d2,WV _ _ (by simp),cM];rw[aa m u,cM];simp only[];rw[X m _ _ _ _ _ _ _ _ _ _ _ _ _ _ _ _ _ _ _ _ _ _ _ U u];simp only[cM,Z1]
   ·refine⟨{ s with XH:=mH s.XH (true,false,bM (jV v.fb)) },?_,I,rfl,rfl,.inr (.inl ⟨E,z,by have:=h.sent;simp only;omega,rfl⟩)⟩;unfold fU dI;rw[h.n6];have A:((2:Int),([(v.fb:Int)]:List Int),([]:List aR))=jV v.fb:=rfl;rw[A,K _ _ _ _ _ _ _ _ _ _ _ _ _ _ _ _ _ _ _ _ _ _ F,cM];have P:cm .lss s.sent s.YH=false:=(by rw[cl,h.enum];exact n9 L);simp only[p7,pF,cM,G,P,YX,jp];have O:=nG (S:=s.WT) (q:=(v.q:Int)) (l:=[]) (by omega) (by omega) (by simp) (fun f M=>by simp at M);rw[B,Jy O,cM];simp only[];unfold lp;rw[show fL=1125899906842623+1 from rfl,Go.YA.ZX (b:= .XT (mH s.XH (true,false,bM (jV v.fb))))]
    ·simp only[cM]
    ·rfl
  ·rw[z] at B;obtain⟨s3,C,T⟩:=V _ m I rfl B N;subst C;refine⟨_,?_,T,rfl,rfl,.inr (.inr ⟨E,m,z,N,fun c=>(by rw[z] at c;cases c),rfl⟩)⟩;unfold fU dI;rw[h.n6];have A:((2:Int),([(v.fb:Int)]:List Int),([]:List aR))=jV v.fb:=rfl;rw[A,K _ _ _ _ _ _ _ _ _ _ _ _ _ _ _ _ _ _ _ _ _ _ F,cM];have Q:(bif (cm .lss s.sent s.YH) then some (cm .eql (s.WU.2.2.length:Int) (0:Int)) else some false)=some false:=by
    rw[z];cases cm .lss s.sent s.YH<;>rfl
   simp only[p7,pF,cM,G];rw[Q,cM];simp only[pF,jp];rw[B,aa m N,cM];simp only[];rw[X m _ _ _ _ _ _ _ _ _ _ _ _ _ _ _ _ _ _ _ _ _ _ _ U N];simp only[cM]
end Go.YO
namespace Go.YO
open Go Go.Sw Go.Mo Go.Pl
open Go.ZZ (oR xZ)
open Go.YA (Good bM fB dQ eB qT)
variable {v:Nm}{now:List aR}{snaps:List (List aR)}{s:PS}
theorem KS{g o:Nat}(hg:g<=3000)(ho:o<=3000):ar .or .i64 (sh .shl .i64 (g:Int) (12:Int)) (o:Int)=kN g o:=by
 have h:sh .shl .i64 (g:Int) (12:Int)=((g*2 ^ 12:Nat):Int):=by
  show IntKind.wrap .i64 ((g:Int)*2 ^ min ((12:Nat):Int).toNat 64)=_;rw[A5,tx (by omega)];have e:(g:Int)*2 ^ 12=((g*2 ^ 12:Nat):Int):=by omega
  rw[e,wrap_i64 (by omega)]
 rw[h,Go.ZZ.orI (by omega) (by omega),Go.ZZ.orP (by omega)];unfold kN;rfl
theorem FN(h:Inv v now snaps s){g:Nat}(h1:1<=g)(h2:g<=v.fb)(h3:s.first<g):Inv { v with x:=0 } now snaps { s with first:=(g:Int),receiver:=(kN g v.ob,0) }:=by
 have o6:=h.F9;have K:∀S,tL v s S->S≠kN g v.ob:=by
  rintro S ⟨C,o,G,M,N,O,P,H⟩ e;rw[G] at e;obtain⟨e1,T⟩:=tD (by omega) (by omega) e;have:=H T;omega
 have L:∀S,tL v s S->tL { v with x:=0 } { s with first:=(g:Int),receiver:=(kN g v.ob,0) } S:=by
  rintro S ⟨C,o,G,M,N,O,P,H⟩;exact⟨C,o,G,M,N,O,P,fun e=>by have:=H e;simp only;omega⟩
 exact { h with
  F9:=by simp only;omega
  idle:=fun _ _=>rfl
  WT:=by
   rcases h.WT with c |⟨o,c1,c2,c3,I⟩
   ·exact .inl c
   ·exact .inr ⟨o,c1,c2,c3,fun e=>by have:=I e;simp only;omega⟩
  first:= .inr ⟨g,h1,h2,rfl,rfl⟩
  act:=fun E=>by
   simp only at E;rcases h.WT with c |⟨o,c1,c2,c3,I⟩
   ·have:=wC v.fb v.ob;omega
   ·rw[c3] at E;have:=I (tD (by omega) (by omega) E).2;omega
  XH:=fun y u=>by
   have u:=h.XH y u;refine⟨u.bytes,u.len,u.ne,u.L9,fun R=>?_⟩;obtain⟨f,U,V,X,g4⟩:=u.whole R;refine⟨f,U,V,fun F=>?_,fun F=>?_⟩
   ·rcases X F with c |⟨S,q,m',B,z,A,D,Q⟩
    ·exact .inl c
    ·exact .inr ⟨S,q,m',B,z,L S A,D,fun _ c=>absurd c (K S A)⟩
   ·rcases g4 F with⟨C,o,j,t,B,z,A,D,Q,a6,a7,a8⟩|⟨S,a,B,z,A,D⟩
    ·refine .inl ⟨C,o,j,t,B,z,A,D,Q,a6,a7,fun c d e=>?_⟩;have:=(a8 c d e).2.1;omega
    ·exact .inr ⟨S,a,B,L S z,A,fun _ c=>absurd c (K S z)⟩}
theorem Iv{g o j:Nat}{t:List Int}(hg:g<=2147483647)(ho:o<=2147483647)(hj:j<=2147483647){x y:Int}(ht:t=[x,y])(hx:0<=x/\x<=2147483647)(hy:0<=y/\y<=2147483647):eB (dX g o j t)=0/\Good (dX g o j t):=by
 subst ht
 have u:dQ (dX g o j [x,y])=0:=Mh (by unfold dX;simp only;omega) (by unfold dX;simp) (by unfold dX;simp) (fun n h=>by
  simp only[dX,fy,Z1,B1,aCm,aEl] at h
  rcases h with rfl | rfl | rfl | rfl | rfl<;>omega)
 have:=(Go.YA.A3 u).1;exact⟨this,qT this (fun b z=>by simp[dX] at z)⟩
theorem Gf(h:Inv v now snaps s){g:Nat}(h1:1<=g)(h2:g<=v.fb)(h3:s.first=g){t:List Int}(ht:kE (snaps.getD v.k [])=some t):Fl v snaps s (dX g v.ob v.k t):=by
 have:=h.pos;exact .inl ⟨g,v.ob,v.k,t,rfl,h1,h2,h.pos.2,ZY _,ZY _,ht,fun c _ e=>⟨rfl,by rw[h3,c],h.idle (by rw[h3,c]) (by rw[c] at e;exact e)⟩⟩
theorem Kc(h:Inv v now snaps s)(h0:0<=s.first)(hs:s.WT=s.receiver.1):s.WT=kN v.fb v.ob:=by
 have B:=h.F9;rcases h.first with⟨A,_⟩|⟨g,A,C,D,u⟩
 ·omega
 ·rcases h.WT with c |⟨o,E,F,z,G⟩
  ·rw[u] at hs;have:=wC g v.ob;simp only at hs;omega
  ·rw[u,z] at hs;rw[z,(tD (by omega) (by omega) hs).2]
theorem CW(h:Inv v now snaps s)(h0:0<=s.first)(ha:tL v s s.receiver.1):Fl v snaps s (tF s.receiver.1 v.x):=by
 refine .inr ⟨_,v.x,rfl,ha,fun c=>?_,fun _ _=>ZY _⟩;rcases h.act (Kc h h0 c.symm) with⟨u,_⟩|⟨u,z,A⟩
 ·exact .inl (by omega)
 ·exact .inr ⟨u,z,by omega⟩
theorem KU(h:Inv v now snaps s)(hx:v.x+1<=100000)(h0:0<=s.first)(ha:tL v s s.receiver.1){to:Nat}(YI:v.k<to)(hle:to<=v.h){d':(List aR)×(List (Int×aR))×Int}(hd:oR d' (snaps.getD to []) to v.ob)
  (hq:s.WT=s.receiver.1->v.x=v.q/\s.WU.2.2≠ []/\s.sent=to):
  Inv { v with k:=to,x:=v.x+1 } now snaps { s with YL:=(to:Int),receiver:=(s.receiver.1,((v.x+1:Nat):Int)),o5:=(v.n:Int),od:=d' }:=by
 have o6:=h.F9;have kd:=h.safe;have Q:s.WT=kN v.fb v.ob->s.WT=s.receiver.1:=by
  intro e;rcases h.WT with c |⟨o,O,P,K,c4⟩
  ·have:=wC v.fb v.ob;omega
  ·rw[K] at e;have F:=(tD (by omega) (by omega) e).2;rcases h.first with⟨z,_⟩|⟨g,z,G,H,d4⟩
   ·omega
   ·have:=c4 F;have u:g=v.fb:=(by omega);rw[d4,K,u,F]
 exact { h with
  F9:=by simp only;omega
  R5:=rfl
  kh:=hle
  M7:=hd
  rr:=rfl
  safe:=by simp only;omega
  idle:=fun c d=>by
   obtain⟨M,o,C,R,T,U,D,V⟩:=ha;rcases h.first with⟨z,_⟩|⟨g,z,G,H,d4⟩
   ·omega
   ·simp only at c d;have u:g=v.fb:=(by omega);rw[d4,u] at C;obtain⟨X,F⟩:=tD (by omega) (by omega) C;rw[d4,u] at D;simp only at D;omega
  first:=by
   rcases h.first with⟨z,_⟩|⟨g,z,G,H,d4⟩
   ·omega
   ·exact .inr ⟨g,z,G,H,by simp only;rw[d4]⟩
  act:=fun e=>by
   obtain⟨a1,a2,B⟩:=hq (Q e);exact .inr ⟨by simp only;omega,a2,B⟩
  XH:=fun y A=>by
   have A:=h.XH y A;refine⟨A.bytes,A.len,A.ne,A.L9,fun u=>?_⟩;obtain⟨f,g1,N,g3,g4⟩:=A.whole u;refine⟨f,g1,N,fun I=>?_,fun I=>?_⟩
   ·rcases g3 I with c |⟨S,q,m',a1,a2,B,E,L⟩
    ·exact .inl c
    ·refine .inr ⟨S,q,m',a1,a2,B,E,fun c d=>?_⟩;have:=(L c d).1;exact⟨by simp only;omega,fun e=>by simp only at e;omega⟩
   ·rcases g4 I with⟨M,o,j,t,a1,a2,B,E,L,a6,a7,a8⟩|⟨S,a,a1,a2,B,E⟩
    ·refine .inl ⟨M,o,j,t,a1,a2,B,E,L,by simp only;omega,a7,fun c d e=>?_⟩;have hf:=(a8 c d e).2.1;obtain⟨N,o2,C,R,T,U,D,V⟩:=ha;rcases h.first with⟨z,_⟩|⟨g,z,G,H,d4⟩
     ·omega
     ·simp only at c d e;have u:g=v.fb:=(by omega);rw[d4,u] at C;obtain⟨X,F⟩:=tD (by omega) (by omega) C;rw[d4,u] at D;simp only at D;rw[c,d] at e;omega
    ·refine .inr ⟨S,a,a1,a2,fun c=>?_,fun c d=>by have:=E c d;simp only;omega⟩;rcases B c with c |⟨O,P,K⟩
     ·exact .inl c
     ·exact .inr ⟨O,P,by simp only;omega⟩}
end Go.YO
namespace Go.YO
open Go Go.Sw Go.Mo Go.Pl
open Go.ZZ (oR xZ)
open Go.YA (Good bM fB dQ eB qT Io Oi oX fJ)
variable {v:Nm}{now:List aR}{snaps:List (List aR)}{s:PS}
theorem FO(dir:Bool)(b:List Int)(b0 b1 b2 b3 b4 b5 b6 b7 b8 b9 YG YF YN YB YK YE YJ XZ YW YV YU YT):
  eQ dir (true,b) b0 b1 b2 b3 b4 b5 b6 b7 b8 b9 YG YF YN YB YK YE YJ XZ YW YV YU YT=some XZ:=rfl
theorem Lf(h:Inv v now snaps s)(h0:0<=s.first):(0<=s.receiver.1/\s.receiver.1<=2147483647)/\s.receiver.2=v.x:=by
 have A:=h.F9;rcases h.first with⟨u,_⟩|⟨g,u,B,C,z⟩
 ·omega
 ·rw[z];refine⟨?_,rfl⟩;show 0<=kN g v.ob/\kN g v.ob<=2147483647;unfold kN;omega
theorem Oo(b:List Int)(u:Fm)(e:Option Int)(hu:fH b=some (u,e))(hn:e.isSome=true\/u.1≠2)
  (hr:0<=s.first->∃fr,oJ s.receiver b=some (s.receiver,fr,false,(true,[]),none)):dR b s=some (none,s):=by
 unfold dR cI;have A:(bif Option.isNone e then bif cm .eql u.1 (2:Int) then some (cm .eql (u.2.1.length:Int) (1:Int)) else some false else some false)=some false:=by
  rcases hn with c | c
  ·cases e with
   |none=>cases c
   |some e=>rfl
  ·have:cm .eql u.1 (2:Int)=false:=(by rw[ce];exact n9 c);rw[this];cases e<;>rfl
 rw[hu,cM];simp only[];rw[A,cM];simp only[pF];by_cases z:s.first<0
 ·have h:cm .lss s.first (0:Int)=true:=by rw[cl];exact D5 z
  rw[h];simp only[YX,cM]
 ·have h:cm .lss s.first (0:Int)=false:=by rw[cl];exact n9 z
  obtain⟨fr,hr⟩:=hr (by omega);rw[h,hr];simp only[pF,cM,p7,jp,FO]
def OT(v:Nm)(snaps:List (List aR))(s s':PS)(x':Nat):Prop:=s'.first=v.fb/\s'.WT=s.WT/\s'.WU=s.WU/\s'.sent=s.sent/\s'.safe=s.safe/\(s.first=v.fb->x'=v.x)/\
 ∃x y,kE (snaps.getD v.k [])=some [x,y]/\s'.XH=mH s.XH (false,false,bM (dX v.fb v.ob v.k [x,y]))
theorem Rz(h:Inv v now snaps s){b:List Int}{g:Nat}(h1:1<=g)(h2:g<=v.fb)(hu:fH b=some (jV g,none)):
  ∃x' s',x'<=v.x/\dR b s=some (none,s')/\Inv { v with x:=x' } now snaps s'/\Tw s s'/\(g=v.fb->OT v snaps s s' x'):=by
 have R:=h.F9;have S:=h.kh;have T:=h.hs;have U:=h.n1;have V:=h.n0;have H:snaps.getD v.k []∈snaps:=by
  rw[V7,J0 (by omega)];exact il _
 have M:(snaps.getD v.k []).length=v.n:=h.ep.len _ H;have A:=xZ h.M7;rw[M,<-h.rr] at A;obtain⟨x,y,u,O,P⟩:=Zv (bs:=snaps.getD v.k []) (by omega) (by omega) (h.bok _ H);obtain⟨L,D⟩:=Iv (g:=g) (o:=v.ob) (j:=v.k) (t:=[x,y]) (by omega) (by omega) (by omega) rfl O P;have I:((3:Int),([(g:Int),(v.ob:Int),(v.k:Int)]++[x,y]:List Int),([]:List aR))=dX g v.ob v.k [x,y]:=rfl;have E:Sw.idx (jV g).2.1 (0:Int)=some (g:Int):=rfl;have F:cm .eql (jV g).1 (2:Int)=true:=rfl;have G:cm .eql ((jV g).2.1.length:Int) (1:Int)=true:=rfl;by_cases N:s.first<g
 ·have K:=FN h h1 h2 N;refine⟨0,{ s with first:=(g:Int),receiver:=(kN g v.ob,0),XH:=mH s.XH (false,false,bM (dX g v.ob v.k [x,y])) },by omega,?_,K.push (Fo D false (fun c=>nomatch c) (fun _=>Gf K h1 h2 rfl u)),.inr ⟨_,rfl⟩,fun e=>by subst e;exact⟨rfl,rfl,rfl,rfl,rfl,fun c=>by omega,x,y,u,rfl⟩⟩;unfold dR cI;have B:cm .gtr (g:Int) s.first=true:=by rw[cg];exact D5 (by omega)
  have z:cm .lss (g:Int) (g:Int)=false:=by rw[cl];exact n9 (by omega)
  rw[hu,cM];simp only[kr,YX,F,G,cM,E,B,jp];rw[A,cM];simp only[p7,pF,cM,z];rw[u,cM,WV _ _ (by simp),cM,h.ai,h.R5,KS (by omega) (by omega),I,Tx D L _ _ _ _ _ _ _ _ _ _ _ _ _ _ _ _ _ _ _ _ _ _ _ h.M0];rfl
 ·have B:cm .gtr (g:Int) s.first=false:=by rw[cg];exact n9 (by omega)
  by_cases C:s.first=g
  ·refine⟨v.x,{ s with XH:=mH s.XH (false,false,bM (dX g v.ob v.k [x,y])) },ZY _,?_,h.push (Fo D false (fun c=>nomatch c) (fun _=>Gf h h1 h2 C u)),.inr ⟨_,rfl⟩,fun e=>by subst e;exact⟨C,rfl,rfl,rfl,rfl,fun _=>rfl,x,y,u,rfl⟩⟩;unfold dR cI;have z:cm .lss (g:Int) s.first=false:=by rw[cl];exact n9 (by omega)
   rw[hu,cM];simp only[kr,YX,F,G,cM,E,B,jp,pF];rw[A,cM];simp only[p7,pF,cM,z];rw[u,cM,WV _ _ (by simp),cM,h.ai,h.R5,C,I,Tx D L _ _ _ _ _ _ _ _ _ _ _ _ _ _ _ _ _ _ _ _ _ _ _ h.M0];rw[<-C,<-h.R5];rfl
  ·refine⟨v.x,s,ZY _,?_,h,.inl rfl,fun e=>by exfalso;rcases h.first with⟨Q,_⟩|⟨X,Q,d2,d3,_⟩<;>omega⟩;unfold dR cI;have z:cm .lss (g:Int) s.first=true:=by rw[cl];exact D5 (by omega)
   rw[hu,cM];simp only[kr,YX,F,G,cM,E,B,jp,pF];rw[A,cM];simp only[p7,pF,cM,z,YX]
def RM(v:Nm)(s s':PS)(k' x':Nat)(S:Int)(q:Nat):Prop:=(S≠s.receiver.1->s'=s/\k'=v.k/\x'=v.x)/\
 (0<=s.first->S=s.receiver.1->S=s.WT->q=v.q->x'=v.q+1/\s'.first=s.first/\s'.WT=s.WT/\s'.WU=s.WU/\s'.sent=s.sent/\s'.safe=s.safe/\s'.XH=mH s.XH (false,false,bM (tF S (v.q+1))))
theorem Xd(h:Inv v now snaps s)(ig:v.x+1<=100000){b:List Int}(hb:Bytes b)(Y4:b.length<=2000){S:Int}{q:Nat}{m:Fm}(hf:fB b=some (XW S q m))(hm:J2 m)(ha:tL v s S)
  (hs:S=s.WT->q<v.q\/(q=v.q/\s.WU.2.2=[m])) (hr:0<=s.first->S=s.receiver.1->q<=v.x/\(q=v.x->∃to,C8 v.n snaps v.k to m)):
  ∃k' x' s',v.k<=k'/\x'<=v.x+1/\dR b s=some (none,s')/\Inv { v with k:=k',x:=x' } now snaps s'/\Tw s s'/\RM v s s' k' x' S q:=by
 have o6:=h.F9;have tj:=h.kh;have m7:=h.hs;have U:=h.n1;have V:=h.n0;have B:=oX b hb (by omega);rw[hf] at B;simp only at B;by_cases X:s.first<0
 ·exact⟨v.k,v.x,s,ZY _,by omega,Oo b _ none B (.inr (by unfold XW;simp)) (fun c=>by omega),h,.inl rfl,fun _=>⟨rfl,rfl,rfl⟩,fun c=>absurd c (by omega)⟩
 ·obtain⟨ah,aj⟩:=Lf h (by omega);have A:=Oi s.receiver b hb Y4 ah (by omega);rw[hf] at A;by_cases u:S=s.receiver.1
  ·obtain⟨av,H0⟩:=hr (by omega) u;have aa:=(Go.YA.A3 hm.load);have ab:=qT aa.1 hm.j1;have ac:=ab.s1;have E:(XW S q m).1=1/\3<=(XW S q m).2.1.length/\(XW S q m).2.1.getD 0 0=s.receiver.1/\(XW S q m).2.1.getD 2 0<=15:=by
    refine⟨rfl,by unfold XW;simp,u,ac⟩
   have ad:(XW S q m).2.1.getD 1 0=q:=rfl;have ae:((XW S q m).2.1.getD 2 0,(XW S q m).2.1.drop 3,(XW S q m).2.2)=m:=rfl;unfold Io at A;simp only[YC E,ad,ae] at A;have I:cm .eql (XW S q m).1 (2:Int)=false:=rfl;have K:cm .lss s.first (0:Int)=false:=by rw[cl];exact n9 X
   have L:∀a:Nat,a<=2147483647->Good (tF s.receiver.1 a):=fun a cq=>by
    refine⟨by unfold tF;simp,by unfold tF;simp,by unfold tF;simp,by unfold tF;simp,fun n P=>?_,fun b hb=>by simp[tF] at hb⟩;simp only[tF,B1,aCm,aEl] at P;rcases P with rfl | rfl<;>omega
   by_cases M:(q:Int)=s.receiver.2/\s.receiver.2<2147483647
   ·rw[YC M] at A;simp only at A;have N:q=v.x:=(by omega);obtain⟨to,C⟩:∃to,C8 v.n snaps v.k to m/\(s.WT=s.receiver.1->v.x=v.q/\s.WU.2.2≠ []/\s.sent=to):=by
     by_cases c:s.WT=s.receiver.1
     ·rcases h.act (Kc h (by omega) c) with⟨D,a2,T⟩|⟨D,a2,T⟩
      ·rcases hs (by rw[u,c]) with d |⟨d1,H⟩
       ·omega
       ·exact⟨s.sent,T m H,fun _=>⟨D,by rw[H];simp,rfl⟩⟩
      ·rcases hs (by rw[u,c]) with d |⟨d1,H⟩<;>omega
     ·obtain⟨to,e⟩:=H0 N;exact⟨to,e,fun d=>absurd d c⟩
    obtain⟨C,am⟩:=C;have YI:=C.lt;have an:=C.le;have ap:=C.nn;let s1:PS:={ s with receiver:=(s.receiver.1,s.receiver.2+1) }
    obtain⟨d',sd,et⟩:=OO (s:=s1) (snaps:=snaps) (n:=v.n) h.M7 rfl V U h.ep.len h.R5 (by omega) (by omega) h.ai (by omega) h.eon h.rr C;have O:s.receiver.2+1=((v.x+1:Nat):Int):=(by omega);have F:=KU h ig (by omega) (by rw[<-u];exact ha) (to:=to.toNat) (by omega) (by omega) sd (fun c=>by obtain⟨c1,c2,c3⟩:=am c;exact⟨c1,c2,by omega⟩);have af:((to.toNat:Nat):Int)=to:=(by omega);rw[af,<-O] at F
    have G:=CW F (by simp only;omega) (by
     obtain⟨g,o,Q,b2,b3,b4,R,b6⟩:=ha;rw[u] at Q R
     exact⟨g,o,Q,b2,b3,b4,R,b6⟩)
    refine⟨to.toNat,v.x+1,_,by omega,ZY _,?_,F.push (Fo (L (v.x+1) (by omega)) false (fun c=>nomatch c) (fun _=>G)),.inr ⟨_,rfl⟩,fun c=>absurd u c,fun _ _ _ e=>⟨by omega,rfl,rfl,rfl,rfl,rfl,by rw[u,<-e,N]⟩⟩;unfold sH at et;unfold dR cI;rw[B,cM];simp only[kr,YX,I,cM,pF,K];rw[A,cM];simp only[p7,pF,YX,jp];cases hz:fI m s.n s.fn s.YH s.XX s.blocks s.WX s.XS s.WT s.WU s.sent s.safe s.WW s.on s.YL s.XI s.first (s.receiver.1,s.receiver.2+1) s.XH s.y7 s.fd s.o5 s.od with
    |none=>simp only[s1] at et;rw[hz] at et;cases et
    |some z=>
     simp only[s1] at et;rw[hz,cM] at et;simp only[E4,V5,PS.mk.injEq] at et;rw[cM];simp only[et,p7,pF];rw[Iu _ _ _ _ _ _ _ _ _ _ _ _ _ _ _ _ _ _ _ _ _ _ _ _ h.M0];simp only[cM,O];rfl
   ·have au:¬q=v.x:=(by omega);rw[XV M] at A;simp only at A;have G:=CW h (by omega) (by rw[<-u];exact ha);refine⟨v.k,v.x,_,ZY _,by omega,?_,h.push (Fo (L v.x (by omega)) false (fun c=>nomatch c) (fun _=>G)),.inr ⟨_,rfl⟩,fun c=>absurd u c,fun _ _ c e=>(fun (z:v.x=v.q+1)=>⟨z,rfl,rfl,rfl,rfl,rfl,by rw[u,<-z]⟩) (by rcases h.act (Kc h (by omega) (by rw[<-c,u])) with⟨D,_⟩|⟨D,_⟩<;>omega)⟩;unfold dR cI;rw[B,cM];simp only[kr,YX,I,cM,pF,K];rw[A,cM];simp only[p7,pF,jp];rw[Iu _ _ _ _ _ _ _ _ _ _ _ _ _ _ _ _ _ _ _ _ _ _ _ _ h.M0];simp only[cM,aj];rfl
  ·refine⟨v.k,v.x,s,ZY _,by omega,Oo b _ none B (.inr (by unfold XW;simp)) (fun _=>⟨(0,[],[]),?_⟩),h,.inl rfl,fun _=>⟨rfl,rfl,rfl⟩,fun _ c=>absurd c u⟩;rw[A];have E:¬((XW S q m).1=1/\3<=(XW S q m).2.1.length/\(XW S q m).2.1.getD 0 0=s.receiver.1/\(XW S q m).2.1.getD 2 0<=15):=fun c=>u c.2.2.1;unfold Io;simp only[XV E]
theorem Xe(h:Inv v now snaps s)(ig:v.x+1<=100000){y:Bool×Bool×List Int}(hy:C9 v snaps s y)(hd:y.1=true):
  ∃k' x' s',v.k<=k'/\x'<=v.x+1/\dR y.2.2 s=some (none,s')/\Inv { v with k:=k',x:=x' } now snaps s'/\Tw s s':=by
 have E:=hy.len;have u:=oX y.2.2 hy.bytes (by omega);by_cases z:y.2.1=true
 ·rw[hy.L9 z] at u;refine⟨v.k,v.x,s,ZY _,by omega,Oo _ _ _ u (.inl rfl) (fun H=>⟨(0,[],[]),?_⟩),h,.inl rfl⟩;obtain⟨I,U⟩:=Lf h H;have T:=h.F9;rw[Oi s.receiver _ hy.bytes E I (by omega),hy.L9 z];rfl
 ·obtain⟨f,K,L,M,_⟩:=hy.whole (by simpa using z);have F:fB y.2.2=some f:=by rw[L];exact fJ K
  rw[F] at u;rcases M hd with⟨g,O,D,rfl⟩|⟨S,q,m,rfl,D,P,Q,R⟩
  ·obtain⟨x',s',G,A,B,C,_⟩:=Rz h O D u;exact⟨v.k,x',s',ZY _,by omega,A,B,C⟩
  ·obtain⟨k',x',s',G,A,B,C,N,_⟩:=Xd h ig hy.bytes E F D P Q R;exact⟨k',x',s',G,A,B,C,N⟩
end Go.YO
namespace Go.YO
open Go Go.Sw Go.Mo Go.Pl
open Go.ZZ (oR xZ)
open Go.YA (Good bM fB dQ eB qT Hc Am oX fJ nG)
variable {v:Nm}{now:List aR}{snaps:List (List aR)}{s:PS}
theorem WJ(x y:Int):jL [x,y] [x,y]=some true:=by
 unfold jL;have e:cm .neq (([x,y]:List Int).length:Int) (([x,y]:List Int).length:Int)=false:=by rw[cn];simp
 rw[e,pF];unfold lp;rw[show fL=1125899906842621+1+1+1 from rfl,Go.YA.m5 (y:=(1:Int)),Go.YA.m5 (y:=(2:Int)),Go.YA.ZX (b:= .XT ())]
 ·rfl
 ·have h:Sw.idx [x,y] (1:Int)=some y:=rfl;have u:cm .neq y y=false:=by rw[cn];simp
  have z:cm .lss (1:Int) (([x,y]:List Int).length:Int)=true:=rfl;rw[z,YX,h,cM,cM,u,pF];rfl
 ·have h:Sw.idx [x,y] (0:Int)=some x:=rfl;have u:cm .neq x x=false:=by rw[cn];simp
  have z:cm .lss (0:Int) (([x,y]:List Int).length:Int)=true:=rfl;rw[z,YX,h,cM,cM,u,pF];rfl
theorem Inv.aGp(h:Inv v now snaps s){e}(he:oh v.n e now snaps):Inv v now snaps { s with WX:=e }:=
 { h with
  ep:=he
  XH:=fun y u=>(h.XH y u).same rfl rfl rfl rfl rfl }
theorem Sa(h:Inv v now snaps s){o j:Nat}(h1:1<=o)(h2:o<=v.ob)(hj:j<=v.k)(YI:s.WT<kN v.fb o)
  (ha:o=v.ob->s.WT<kN v.fb o->j=v.k/\s.first=(v.fb:Int)/\v.x=0) {sent:Int} (aQa:sent=j\/(sent= -1/\j<v.h)):
  Inv { v with q:=0 } now snaps { s with WT:=kN v.fb o,WU:=(kN v.fb o,0,[]),sent:=sent,safe:=max s.safe (j:Int),WW:=[] }:=by
 have o6:=h.F9;have tj:=h.kh;have kd:=h.safe;have C:∀S,tL v s S->S≠kN v.fb o/\tL { v with q:=0 } { s with WT:=kN v.fb o,WU:=(kN v.fb o,0,[]),sent:=sent,safe:=max s.safe (j:Int),WW:=[] } S:=by
  rintro S ⟨F,G,H,X,b3,b4,M,b6⟩;refine⟨fun e=>?_,F,G,H,X,b3,b4,?_,b6⟩
  ·rw[H] at e;obtain⟨P,Q⟩:=tD (by omega) (by omega) e;rcases M with c |⟨I,K⟩
   ·omega
   ·rw[H,P,Q] at K;omega
  ·rcases M with c |⟨I,K⟩
   ·exact .inl c
   ·exact .inr ⟨I,by simp only;omega⟩
 exact { h with
  F9:=by simp only;omega
  safe:=by simp only;omega
  sent:=by simp only;omega
  low:=fun _=>by simp only;omega
  idle:=fun c d=>h.idle c (by simp only at d;omega)
  WT:= .inr ⟨o,h1,h2,rfl,fun e=>(ha e YI).2.1⟩
  WU:= .inr ⟨wC _ _,rfl,rfl⟩
  queue:= .inl ⟨rfl,rfl⟩
  act:=fun e=>by
   simp only at e;obtain⟨B,z,A⟩:=ha (tD (by omega) (by omega) e).2 YI;refine .inl ⟨A,fun _=>?_,fun m N=>by simp at N⟩;simp only;rcases aQa with c |⟨I,K⟩
   ·left;omega
   ·right;omega
  XH:=fun y u=>by
   have u:=h.XH y u;refine⟨u.bytes,u.len,u.ne,u.L9,fun O=>?_⟩;obtain⟨f,R,T,U,V⟩:=u.whole O;refine⟨f,R,T,fun E=>?_,fun E=>?_⟩
   ·rcases U E with c |⟨S,q,m',B,z,A,D,L⟩
    ·exact .inl c
    ·exact .inr ⟨S,q,m',B,z,(C S A).2,fun c=>absurd c (C S A).1,L⟩
   ·rcases V E with⟨F,G,j',t',B,z,A,D,L,a6,a7,a8⟩|⟨S,a,B,z,A,D⟩
    ·exact .inl ⟨F,G,j',t',B,z,A,D,L,a6,a7,fun c d e=>a8 c d (by simp only at e;omega)⟩
    ·exact .inr ⟨S,a,B,(C S z).2,fun c=>absurd c (C S z).1,D⟩}
theorem FP(h:Inv v now snaps s)(kk:v.q+1<=100000)(h0:0<=s.WT){m:Fm}(hq:s.WU.2.2=[m])(hk:s.sent<=v.k):
  Inv { v with q:=v.q+1 } now snaps { s with WU:=(s.WT,((v.q+1:Nat):Int),[]),safe:=max s.safe s.sent,WW:=[] }:=by
 have K:=h.F9;have L:=h.kh;have M:=h.safe
 exact { h with
  F9:=by simp only;omega
  safe:=by simp only;omega
  low:=fun _=>by simp only;omega
  WU:= .inr ⟨h0,rfl,rfl⟩
  queue:= .inl ⟨rfl,rfl⟩
  act:=fun e=>by
   rcases h.act e with⟨a1,a2,a3⟩|⟨a1,a2,a3⟩
   ·have:=(a3 m hq).lt;omega
   ·exact .inl ⟨by simp only;omega,fun _=> .inl a3,fun m B=>by simp at B⟩
  XH:=fun y u=>by
   have u:=h.XH y u;refine⟨u.bytes,u.len,u.ne,u.L9,fun C=>?_⟩;obtain⟨f,D,E,F,G⟩:=u.whole C;refine⟨f,D,E,fun z=>?_,fun z=>?_⟩
   ·rcases F z with c |⟨S,q,H,a1,a2,a3,A,I⟩
    ·exact .inl c
    ·exact .inr ⟨S,q,H,a1,a2,a3,fun c=> .inl (by have:=A c;simp only;omega),I⟩
   ·rcases G z with c |⟨S,a,a1,a2,a3,A⟩
    ·exact .inl c
    ·exact .inr ⟨S,a,a1,a2,fun c=> .inl (by have:=a3 c;simp only;omega),A⟩}
def Zx(v:Nm)(u:Fm)(e:Option Int):Prop:=e.isSome=true\/u.1≠3\/∃g o j x y,u=dX g o j [x,y]/\g≠v.fb
theorem Sb{u:Fm}{e:Option Int}(h:Zx v u e):(bif (Option.isNone e) then
  bif (cm .eql u.1 (3:Int)) then
   bif (cm .eql (u.2.1.length:Int) (5:Int)) then
    (Sw.idx u.2.1 (0:Int)).bind fun dt=>
     some (cm .eql dt (v.fb:Int))
   else
    some false
  else
   some false
  else
   some false)=some false:=by
 rcases h with c | c |⟨g,o,j,x,y,rfl,D⟩
 ·cases e with
  |none=>cases c
  |some e=>rfl
 ·have:cm .eql u.1 (3:Int)=false:=by rw[ce];exact n9 c
  rw[this];cases e<;>rfl
 ·have z:cm .eql (dX g o j [x,y]).1 (3:Int)=true:=rfl;have A:cm .eql ((dX g o j [x,y]).2.1.length:Int) (5:Int)=true:=rfl;have B:Sw.idx (dX g o j [x,y]).2.1 (0:Int)=some (g:Int):=rfl;have C:cm .eql (g:Int) (v.fb:Int)=false:=by rw[ce];exact n9 (by omega)
  rw[z,A,B,cM,C];cases e<;>rfl
theorem Iw(h:Inv v now snaps s){b:List Int}{u:Fm}{e:Option Int}(hu:fH b=some (u,e))(hn:Zx v u e)
  (hh:0<=s.WT->sE s.WU b=some (s.WU,none)):∃s',dW b s=some (none,s')/\Inv v now snaps s'/\s'.XH=s.XH:=by
 have H:=h.F9;have I:=h.safe;have K:=h.kh;have L:s.WX.1=v.h:=by have:=h.ep.num;have:=h.hs;omega
 have A:=Sb hn;by_cases B:s.WT<0
 ·refine⟨s,?_,h,rfl⟩;unfold dW cP;have z:cm .lss s.WT (0:Int)=true:=by rw[cl];exact D5 B
  rw[hu,cM,h.n6];simp only[];rw[A];simp only[cM,pF,z,YX];rw[<-h.n6]
 ·obtain⟨F,G⟩:=h.ep.drop (num:=min s.safe s.WX.1) (by omega);refine⟨_,?_,h.aGp G,rfl⟩;unfold dW cP;have z:cm .lss s.WT (0:Int)=false:=by rw[cl];exact n9 B
  rw[hu,cM,h.n6];simp only[];rw[A];simp only[cM,pF,z];rw[hh (by omega)];simp only[cM,p7,pF];have C:ar .sub .i64 (s.WU.2.2.length:Int) (s.WU.2.2.length:Int)=0:=by rw[T5 (by omega)];omega
  have D:Sw.sub s.WW (0:Int) 0=some []:=by unfold Sw.sub;rw[YC (by omega)];rfl
  have E:Sw.sub s.WW (0:Int) (s.WW.length:Int)=some s.WW:=by unfold Sw.sub;rw[YC (by omega)];simp
  rw[C,D,cM];unfold lp;rw[show fL=1125899906842623+1 from rfl,Go.YA.ZX (b:= .XT s.safe)]
  ·simp only[];rw[E,cM,h.efn,F,cM];rw[<-h.n6,<-h.efn];rfl
  ·rfl
end Go.YO
namespace Go.YO
open Go Go.Sw Go.Mo Go.Pl
open Go.ZZ (oR xZ)
open Go.YA (Good bM fB dQ eB qT Hc Am oX fJ nG jO)
variable {v:Nm}{now:List aR}{snaps:List (List aR)}{s:PS}
def UA(v:Nm)(s s':PS)(q' o j:Nat):Prop:=s'.first=s.first/\(s.WT<kN v.fb o->s'.WT=kN v.fb o/\s'.WU.2.2=[])/\(¬s.WT<kN v.fb o->s'=s/\q'=v.q)
theorem Lg(h:Inv v now snaps s){b:List Int}{o j:Nat}{x y:Int}(hu:fH b=some (dX v.fb o j [x,y],none))(h1:1<=o)(h2:o<=v.ob)(hj:j<=v.k)(ht:kE (snaps.getD j [])=some [x,y])
  (ha:o=v.ob->s.WT<kN v.fb o->j=v.k/\s.first=(v.fb:Int)/\v.x=0):∃q' s',q'<=v.q/\dW b s=some (none,s')/\Inv { v with q:=q' } now snaps s'/\s'.XH=s.XH/\UA v s s' q' o j:=by
 have M:=h.F9;have N:=h.kh;have A:Sw.idx (dX v.fb o j [x,y]).2.1 (0:Int)=some (v.fb:Int):=rfl;have B:Sw.idx (dX v.fb o j [x,y]).2.1 (1:Int)=some (o:Int):=rfl;have H:Sw.idx (dX v.fb o j [x,y]).2.1 (2:Int)=some (j:Int):=rfl;have C:cm .eql (dX v.fb o j [x,y]).1 (3:Int)=true:=rfl;have D:cm .eql ((dX v.fb o j [x,y]).2.1.length:Int) (5:Int)=true:=rfl;have E:cm .eql (v.fb:Int) (v.fb:Int)=true:=by rw[ce];simp
 have K:Sw.sub (dX v.fb o j [x,y]).2.1 (3:Int) ((dX v.fb o j [x,y]).2.1.length:Int)=some [x,y]:=rfl;have F:=KS (g:=v.fb) (o:=o) (by omega) (by omega);by_cases u:s.WT<kN v.fb o
 ·have z:cm .gtr (kN v.fb o) s.WT=true:=by rw[cg];exact D5 u
  cases hp:fR s.XS (j:Int) with
  |none=>
   have L:j<v.h:=by
    rcases R8 j v.h with c | c
    ·exact c
    ·have:j=v.h:=(by omega);rw[this,h.last] at hp;cases hp
   have G:=Sa h h1 h2 hj u ha (sent:= -1) (.inr ⟨rfl,L⟩);refine⟨0,_,by omega,?_,G,rfl,rfl,fun _=>⟨rfl,rfl⟩,fun c=>absurd u c⟩;unfold dW cP;rw[hu,cM,h.n6];simp only[kr,YX,C,D,A,B,H,E,cM,F,z,jp,hp,p7,yd]
  |some l=>
   have I:=h.XS _ (It hp);simp only[A5] at I;rw[<-I.2.2] at ht;have G:=Sa h h1 h2 hj u ha (sent:=(j:Int)) (.inl rfl);refine⟨0,_,by omega,?_,G,rfl,rfl,fun _=>⟨rfl,rfl⟩,fun c=>absurd u c⟩;unfold dW cP;rw[hu,cM,h.n6];simp only[kr,YX,C,D,A,B,H,E,cM,F,z,jp,hp,aCv,lu,pF,aCe,ht,K,WJ]
 ·have z:cm .gtr (kN v.fb o) s.WT=false:=by rw[cg];exact n9 u
  refine⟨v.q,s,ZY _,?_,h,rfl,rfl,fun c=>absurd c u,fun _=>⟨rfl,rfl⟩⟩;unfold dW cP;rw[hu,cM,h.n6];simp only[kr,YX,C,D,A,B,E,cM,F,z,jp,pF];rw[<-h.n6]
theorem Kd(h:Inv v now snaps s)(h0:0<=s.WT):jO s.WU=0:=by
 have G:=h.F9;have H:=Mi h;rcases h.WU with⟨B,_⟩|⟨B,C,D⟩
 ·omega
 ·have A:s.WU=(s.WT,(v.q:Int),s.WU.2.2):=by rw[<-C,<-D]
  rw[A];rcases h.queue with⟨z,E⟩|⟨m,z,E,F,I⟩
  ·rw[z];exact nG (by omega) (by omega) (by simp) (fun f u=>by simp at u)
  ·rw[z];exact nG (by omega) (by omega) (by simp) (fun f u=>by simp at u;subst u;exact F.load)
theorem CX(h:Inv v now snaps s)(kk:v.q+1<=100000){b:List Int}(hb:Bytes b)(Y4:b.length<=2000){S:Int}{a:Nat}(hf:fB b=some (tF S a))
  (hs:S=s.WT->a<=v.q\/(a=v.q+1/\s.WU.2.2≠ []/\s.sent<=v.k)):∃q' s',q'<=v.q+1/\dW b s=some (none,s')/\Inv { v with q:=q' } now snaps s'/\s'.XH=s.XH/\
   (0<=s.WT->S=s.WT->a=v.q+1->s.WU.2.2.length=1->s'.first=s.first/\s'.WT=s.WT/\s'.WU.2.2=[]/\s'.sent=s.sent):=by
 have o6:=h.F9;have tj:=h.kh;have kd:=h.safe;have z:=oX b hb (by omega);rw[hf] at z;simp only at z;have G:Zx v (tF S a) none:= .inr (.inl (by unfold tF;simp));by_cases D:0<=s.WT
 ·have u:=Am s.WU b hb Y4 (Kd h D);rw[hf] at u;unfold Hc at u;by_cases E:(tF S a).1=0/\(tF S a).2.2=[]/\(tF S a).2.1.length=2/\(tF S a).2.1.getD 0 0=s.WU.1/\s.WU.2.1<(tF S a).2.1.getD 1 0/\(tF S a).2.1.getD 1 0 - s.WU.2.1<=min (s.WU.2.2.length:Int) 4
  ·simp only[YC E] at u;obtain⟨_,_,_,H,O,P⟩:=E;have H:S=s.WU.1:=H;have R:(tF S a).2.1.getD 1 0=(a:Int):=rfl;rw[R] at O P u;rcases h.WU with⟨L,_⟩|⟨L,F,M⟩
   ·omega
   ·have T:=hs (by rw[H,F]);rw[M] at O P;have I:a=v.q+1/\s.WU.2.2≠ []/\s.sent<=v.k:=by
     rcases T with d | d
     ·omega
     ·exact d
    obtain⟨I,_,aa⟩:=I;rcases h.queue with⟨C,Q⟩|⟨m,C,Q,d3,d4⟩
    ·exact absurd C ‹_›
    ·have N:=FP h kk D C aa;have O4:s.WX.1=v.h:=(by have:=h.ep.num;have:=h.hs;omega);obtain⟨A,B⟩:=N.ep.drop (num:=min (max s.safe s.sent) s.WX.1) (by simp only;omega);refine⟨v.q+1,_,ZY _,?_,N.aGp B,rfl,fun _ _ _ _=>⟨rfl,rfl,rfl,rfl⟩⟩;have U:(s.WU.1,(a:Int),s.WU.2.2.drop ((a:Int) - s.WU.2.1).toNat)=(s.WT,((v.q+1:Nat):Int),([]:List Fm)):=by
      rw[F,M,C,I];have:(((v.q+1:Nat):Int) - (v.q:Int)).toNat=1:=(by omega);rw[this];rfl
     rw[U] at u;have V:=Sb G;unfold dW cP;have X:cm .lss s.WT (0:Int)=false:=(by rw[cl];exact n9 (by omega));rw[z,cM,h.n6];simp only[];rw[V];simp only[cM,pF,X];rw[u];simp only[cM,p7,pF];rw[C,Q];have m6:ar .sub .i64 (([m]:List Fm).length:Int) (([]:List Fm).length:Int)=1:=(by rw[T5 (by simp)];simp);have hz:Sw.sub [s.sent] (0:Int) 1=some [s.sent]:=rfl;have J6:Sw.sub [s.sent] (1:Int) (([s.sent]:List Int).length:Int)=some []:=rfl;rw[m6,hz,cM];unfold lp;rw[show fL=1125899906842622+1+1 from rfl,Go.YA.m5 (y:=((1:Int),max s.safe s.sent)),Go.YA.ZX (b:= .XT (max s.safe s.sent))]
     ·simp only[];rw[J6,cM,h.efn,A,cM];rw[<-h.n6,<-h.efn];rfl
     ·rfl
     ·rfl
  ·simp only[XV E] at u;obtain⟨s',A,B,K⟩:=Iw h z G (fun _=>u);refine⟨v.q,s',by omega,A,B,K,fun _ c d e=>absurd ?_ E⟩;rcases h.WU with⟨L,_⟩|⟨L,F,M⟩
   ·omega
   ·refine⟨rfl,rfl,rfl,?_,?_,?_⟩
    ·show S=s.WU.1;rw[F,c]
    ·show s.WU.2.1<(a:Int);omega
    ·show (a:Int) - s.WU.2.1<=_;omega
 ·obtain⟨s',A,B,K⟩:=Iw h z G (fun c=>absurd c D);exact⟨v.q,s',by omega,A,B,K,fun c=>absurd c D⟩
theorem Zy(h:Inv v now snaps s)(kk:v.q+1<=100000){y:Bool×Bool×List Int}(hy:C9 v snaps s y)(hd:y.1=false):
  ∃q' s',q'<=v.q+1/\dW y.2.2 s=some (none,s')/\Inv { v with q:=q' } now snaps s'/\s'.XH=s.XH:=by
 have o6:=h.F9;have tj:=h.kh;have m7:=h.hs;have O9:=h.n1;have ln:=h.n0;have E:=hy.len;have B:=oX y.2.2 hy.bytes (by omega);by_cases K:y.2.1=true
 ·have D:=fun G=>Am s.WU y.2.2 hy.bytes E (Kd h G);rw[hy.L9 K] at B D;obtain⟨s',C,u,A⟩:=Iw h B (.inl rfl) D;exact⟨v.q,s',by omega,C,u,A⟩
 ·obtain⟨f,Q,R,_,T⟩:=hy.whole (by simpa using K);have F:fB y.2.2=some f:=by rw[R];exact fJ Q
  rcases T hd with⟨g,o,j,t,rfl,V,N,O,X,a6,I,a8⟩|⟨S,a,rfl,V,N,O⟩
  ·have L:snaps.getD j []∈snaps:=by
    rw[V7,J0 (by omega)];exact il _
   have gz:(snaps.getD j []).length=v.n:=h.ep.len _ L;obtain⟨x,z,U,_,_⟩:=Zv (bs:=snaps.getD j []) (by omega) (by omega) (h.bok _ L);have P:t=[x,z]:=(by rw[U] at I;exact(pT I).symm);subst P;rw[F] at B;simp only at B;by_cases M:g=v.fb
   ·subst M;obtain⟨q',s',C,u,A,H,_⟩:=Lg h B O X a6 I (a8 rfl);exact⟨q',s',by omega,u,A,H⟩
   ·obtain⟨s',C,u,A⟩:=Iw h B (.inr (.inr ⟨g,o,j,x,z,rfl,M⟩)) (fun G=>by
     have D:=Am s.WU y.2.2 hy.bytes E (Kd h G);rw[F] at D;rw[D];unfold Hc;simp only[]
     rw[XV (fun c=>by have:=c.1;simp[dX] at this)])
    exact⟨v.q,s',by omega,C,u,A⟩
  ·obtain⟨q',s',C,u,A,H,_⟩:=CX h kk hy.bytes E F N;exact⟨q',s',C,u,A,H⟩
end Go.YO
namespace Go.YO
open Go Go.Sw Go.Mo Go.Pl
open Go.ZZ (oR xZ)
variable {v:Nm}{now:List aR}{snaps:List (List aR)}{s:PS}
theorem KV(g:Bool)(b:List Int)(s:PS):iO (true,g,b) s=dR b s:=by
 unfold iO dY dR;rw[YX];cases cI b s.n s.fn s.YH s.XX s.blocks s.WX s.XS s.WT s.WU s.sent s.safe s.WW s.on s.YL s.XI s.first s.receiver s.XH s.y7 s.fd s.o5 s.od<;>rfl
theorem KW(g:Bool)(b:List Int)(s:PS):iO (false,g,b) s=dW b s:=by
 unfold iO dY dW;rw[pF];cases cP b s.n s.fn s.YH s.XX s.blocks s.WX s.XS s.WT s.WU s.sent s.safe s.WW s.on s.YL s.XI s.first s.receiver s.XH s.y7 s.fd s.o5 s.od<;>rfl
def wt(l:List (Bool×Bool×List Int)):Nat:=(l.map fun y=>bif y.1 then 2 else 1).sum
theorem Zz(a b:List (Bool×Bool×List Int)):wt (a++b)=wt a+wt b:=by unfold wt;rw[aCr,List.sum_append]
theorem OU(l:List (Bool×Bool×List Int))(y:Bool×List Int):wt (mH l (false,y))<=wt l+1:=by
 unfold mH;split
 ·rw[Zz];simp[wt]
 ·omega
theorem UB(l:List (Bool×Bool×List Int)):wt l<=2*l.length:=by
 induction l with
 |nil=>simp[wt]
 |cons a l h=>
  have:wt (a::l)=(bif a.1 then 2 else 1)+wt l:=by unfold wt;simp
  rw[this,H6];cases a.1<;>simp<;>omega
theorem OV(h:Inv v now snaps s)(kk:v.q+1<=100000)(ig:v.x+1<=100000){y:Bool×Bool×List Int}(hy:C9 v snaps s y):
  ∃k' q' x' s',v.k<=k'/\q'<=v.q+1/\x'<=v.x+1/\iO y s=some (none,s')/\Inv { v with k:=k',q:=q',x:=x' } now snaps s'/\wt s'.XH<wt s.XH+(bif y.1 then 2 else 1):=by
 by_cases A:y.1=true
 ·obtain⟨k',x',s',E,C,u,D,B⟩:=Xe h ig hy A;refine⟨k',v.q,x',s',E,by omega,C,?_,D,?_⟩
  rotate_left
  ·rw[A,YX];rcases B with B |⟨z,B⟩
   ·rw[B];omega
   ·rw[B];have:=OU s.XH z;omega
  unfold dR at u;unfold iO dY;rw[A,YX];cases hz:cI y.2.2 s.n s.fn s.YH s.XX s.blocks s.WX s.XS s.WT s.WU s.sent s.safe s.WW s.on s.YL s.XI s.first s.receiver s.XH s.y7 s.fd s.o5 s.od with
  |none=>rw[hz] at u;cases u
  |some z=>rw[hz] at u;exact u
 ·have A:y.1=false:=by simpa using A
  obtain⟨q',s',C,u,D,B⟩:=Zy h kk hy A;refine⟨v.k,q',v.x,s',ZY _,C,by omega,?_,D,by rw[A,pF,B];omega⟩;unfold dW at u;unfold iO dY;rw[A,pF];cases hz:cP y.2.2 s.n s.fn s.YH s.XX s.blocks s.WX s.XS s.WT s.WU s.sent s.safe s.WW s.on s.YL s.XI s.first s.receiver s.XH s.y7 s.fd s.o5 s.od with
  |none=>rw[hz] at u;cases u
  |some z=>rw[hz] at u;exact u
theorem Oq(h:Inv v now snaps s)(kk:v.q+1<=100000)(ig:v.x+1<=100000){a:Int}(ha:I9 a):
  ∃k' q' x' s',v.k<=k'/\q'<=v.q+1/\x'<=v.x+1/\cW a s=some (none,s')/\Inv { v with k:=k',q:=q',x:=x' } now snaps s'/\(s.XH≠ []->wt s'.XH<wt s.XH):=by
 rcases Dz h ha with⟨Q,u⟩|⟨i,C,u,R,T⟩
 ·refine⟨v.k,v.q,v.x,s,ZY _,by omega,by omega,?_,h,fun c=>absurd Q c⟩;unfold jT at u;unfold cW cT;cases hq:cD a s.n s.fn s.YH s.XX s.blocks s.WX s.XS s.WT s.WU s.sent s.safe s.WW s.on s.YL s.XI s.first s.receiver s.XH s.y7 s.fd s.o5 s.od with
  |none=>rw[hq] at u;cases u
  |some q=>
   rw[hq] at u;simp only[cM,E4,V5] at u;simp only[cM,u.2.1,yd,YX]
 ·have S:=h.M0;have D:=sG (J0 C);have E:=h.XH _ (il C);generalize hy:s.XH[i]=y at D E
  have F:=h.T6 (l:=s.XH.take i++s.XH.drop (i+1)) (by simp;omega) (fun x A=>by
   rcases S9.1 A with A | A
   ·exact h.XH x (aCp A)
   ·exact h.XH x (aDs A))
  obtain⟨k',q',x',s',L,M,N,B,O,P⟩:=OV F kk ig (y:=y) (E.same rfl rfl rfl rfl rfl);refine⟨k',q',x',s',L,M,N,?_,O,fun _=>Nat.lt_of_lt_of_eq P ?_⟩
  rotate_left
  ·have e:=db i s.XH;rw[aCy C,hy] at e;have G:=congrArg wt e;have H:wt (y::s.XH.drop (i+1))=(bif y.1 then 2 else 1)+wt (s.XH.drop (i+1)):=(by unfold wt;simp);rw[Zz,H] at G;simp only[Zz];omega
  unfold iO at B;unfold cW cT;rw[R,cM];simp only[lu,pF,D,cM];rw[Kb (by omega),cM];have I:ar .add .i64 (i:Int) (1:Int)=((i+1:Nat):Int):=C2 (by omega);have K:cH s.XH (i:Int) ((i+1:Nat):Int)=some (s.XH.take i++s.XH.drop (i+1)):=Tv s.XH i C;rw[I,K,cM];cases hz:dY y s.n s.fn s.YH s.XX s.blocks s.WX s.XS s.WT s.WU s.sent s.safe s.WW s.on s.YL s.XI s.first s.receiver (s.XH.take i++s.XH.drop (i+1)) s.y7 s.fd s.o5 s.od with
  |none=>rw[hz] at B;cases B
  |some z=>rw[hz] at B;exact B
theorem xG(h:Inv v now snaps s){y:Bool×Bool×List Int}{r:List (Bool×Bool×List Int)}(hn:s.XH=y::r):cW 0 s=iO y { s with XH:=r }:=by
 have H:=h.M0;rcases Dz h (a:=0) (by unfold I9;omega) with⟨u,D⟩|⟨i,E,D,F,G⟩
 ·rw[hn] at u;cases u
 ·obtain rfl:=G rfl;unfold cW cT;rw[F,cM];have z:Sw.idx s.XH ((0:Nat):Int)=some y:=by rw[hn];rfl
  simp only[lu,pF,z,cM];rw[Kb (by omega),cM];have A:ar .add .i64 ((0:Nat):Int) (1:Int)=((0+1:Nat):Int):=C2 (by omega);have B:cH s.XH ((0:Nat):Int) ((0+1:Nat):Int)=some (s.XH.take 0++s.XH.drop (0+1)):=Tv s.XH 0 E;have C:s.XH.take 0++s.XH.drop (0+1)=r:=by rw[hn];rfl
  rw[A,B,cM,C];unfold iO;simp only[];cases dY y s.n s.fn s.YH s.XX s.blocks s.WX s.XS s.WT s.WU s.sent s.safe s.WW s.on s.YL s.XI s.first s.receiver r s.y7 s.fd s.o5 s.od<;>rfl
theorem Ty(h:Inv v now snaps s)(r:Int×aR×Int×Int×Int×List aR):rL r s=some ((r.1,r.2.1,(v.h:Int),s.safe,(v.k:Int),snaps.getD v.k []),none,s):=by
 have B:=h.kh;have C:=h.hs;have z:snaps.getD v.k []∈snaps:=by
  rw[V7,J0 (by omega)];exact il _
 have A:(snaps.getD v.k []).length=v.n:=h.ep.len _ z;have u:=xZ h.M7;rw[A,<-h.rr] at u;unfold rL dZ;rw[u,h.enum,h.R5];simp only[cM]
end Go.YO
namespace Go.YO
open Go Go.Sw Go.Mo Go.Pl
variable {v v':Nm}{now U2:List aR}{snaps l6:List (List aR)}{s s':PS}
def fns(i:Nat)(d:Int×Int×Int×aR)(s:PS):=wP i d s.n s.fn s.YH s.XX s.blocks s.WX s.XS s.WT s.WU s.sent s.safe s.WW s.on s.YL s.XI s.first s.receiver s.XH s.y7 s.fd s.o5 s.od
theorem KX(i:Fin 11):uP ((i.1:Nat):Int)=some i.1:=by revert i;decide+kernel
theorem qV{d:Int×Int×Int×aR}{i:Nat}{j1:aR}{e:Option Int}(h':Inv v' U2 l6 s')(hi:i<11)(hd:d.1=(i:Int))(hf:fns i d s=some (j1,e,XU s')):
  nF d s=some ((e.getD 0,j1,(v'.h:Int),s'.safe,(v'.k:Int),l6.getD v'.k []),none,s'):=by
 have u:=Ty h' (e.getD 0,j1,0,0,0,[]);have A:=KX ⟨i,hi⟩;simp only at A;have B:cm .lss d.1 (0:Int)=false:=by rw[cl];exact n9 (by omega)
 have C:cm .geq d.1 (11:Int)=false:=by rw[O6];exact n9 (by omega)
 unfold fns at hf;unfold rL at u;unfold nF iC;rw[B,C];simp only[pF,cM,jp];rw[hd,A,cM,hf,cM];cases hz:dZ (e.getD 0,j1,0,0,0,[]) s'.n s'.fn s'.YH s'.XX s'.blocks s'.WX s'.XS s'.WT s'.WU s'.sent s'.safe s'.WW s'.on s'.YL s'.XI s'.first s'.receiver s'.XH s'.y7 s'.fd s'.o5 s'.od with
 |none=>rw[hz] at u;cases u
 |some z=>
  rw[hz] at u;simp only[cM,E4,V5] at u;obtain⟨D,E⟩:=z;obtain⟨rfl,rfl,_⟩:=u;cases e with
  |none=>
   simp only[aEw] at hz;simp only[XU,p7,pF,cM,hz,aEw]
  |some c=>
   simp only[aCe] at hz;simp only[XU,aCv,YX,lu,pF,cM,aCe,hz]
theorem OW{d:Int×Int×Int×aR}(h:Inv v now snaps s)(hd:d.1<0\/11<=d.1):
  nF d s=some ((3,aQ,(v.h:Int),s.safe,(v.k:Int),snaps.getD v.k []),none,s):=by
 have u:=Ty h (3,aQ,0,0,0,[]);have A:(bif (cm .lss d.1 (0:Int)) then some true else some (cm .geq d.1 (11:Int)))=some true:=by
  rw[cl,O6];by_cases c:d.1<0
  ·rw[D5 c];rfl
  ·rw[n9 c,D5 (by omega)];rfl
 unfold rL at u;unfold nF iC;rw[A];simp only[cM,jp,YX];cases hz:dZ (3,aQ,0,0,0,[]) s.n s.fn s.YH s.XX s.blocks s.WX s.XS s.WT s.WU s.sent s.safe s.WW s.on s.YL s.XI s.first s.receiver s.XH s.y7 s.fd s.o5 s.od with
 |none=>rw[hz] at u;cases u
 |some z=>
  rw[hz] at u;simp only[cM,E4,V5] at u;obtain⟨B,C⟩:=z;obtain⟨rfl,rfl,_⟩:=u;rfl
theorem CY{d:Int×Int×Int×aR}{e:Option Int}(h:lO d.2.1 d.2.2.2 s=some (e,s')):fns 0 d s=some (aQ,e,XU s'):=by
 unfold lO at h;unfold fns wP nT;cases hz:eY d.2.1 d.2.2.2 s.n s.fn s.YH s.XX s.blocks s.WX s.XS s.WT s.WU s.sent s.safe s.WW s.on s.YL s.XI s.first s.receiver s.XH s.y7 s.fd s.o5 s.od with
 |none=>rw[hz] at h;cases h
 |some z=>rw[hz] at h;simp only[cM,E4,V5] at h;obtain⟨u,rfl⟩:=h;rw[<-u];rfl
theorem Xf{d:Int×Int×Int×aR}{e:Option Int}(h:lO d.2.1 aQ s=some (e,s')):fns 1 d s=some (aQ,e,XU s'):=by
 unfold lO at h;unfold fns wP nU;cases hz:eY d.2.1 aQ s.n s.fn s.YH s.XX s.blocks s.WX s.XS s.WT s.WU s.sent s.safe s.WW s.on s.YL s.XI s.first s.receiver s.XH s.y7 s.fd s.o5 s.od with
 |none=>rw[hz] at h;cases h
 |some z=>rw[hz] at h;simp only[cM,E4,V5] at h;obtain⟨u,rfl⟩:=h;rw[<-u];rfl
theorem Xg{d:Int×Int×Int×aR}{e:Option Int}(h:qU s=some (e,s')):fns 3 d s=some (aQ,e,XU s'):=by
 unfold qU at h;unfold fns wP nW;cases hz:fX s.n s.fn s.YH s.XX s.blocks s.WX s.XS s.WT s.WU s.sent s.safe s.WW s.on s.YL s.XI s.first s.receiver s.XH s.y7 s.fd s.o5 s.od with
 |none=>rw[hz] at h;cases h
 |some z=>rw[hz] at h;simp only[cM,E4,V5] at h;obtain⟨u,rfl⟩:=h;rw[<-u];rfl
theorem KY{d:Int×Int×Int×aR}{e:Option Int}(h:fU s=some (e,s')):fns 4 d s=some (aQ,e,XU s'):=by
 unfold fU at h;unfold fns wP nX;cases hz:dI s.n s.fn s.YH s.XX s.blocks s.WX s.XS s.WT s.WU s.sent s.safe s.WW s.on s.YL s.XI s.first s.receiver s.XH s.y7 s.fd s.o5 s.od with
 |none=>rw[hz] at h;cases h
 |some z=>rw[hz] at h;simp only[cM,E4,V5] at h;obtain⟨u,rfl⟩:=h;rw[<-u];rfl
theorem Xh{d:Int×Int×Int×aR}{e:Option Int}(h:cW d.2.1 s=some (e,s')):fns 5 d s=some (aQ,e,XU s'):=by
 unfold cW at h;unfold fns wP nY;cases hz:cT d.2.1 s.n s.fn s.YH s.XX s.blocks s.WX s.XS s.WT s.WU s.sent s.safe s.WW s.on s.YL s.XI s.first s.receiver s.XH s.y7 s.fd s.o5 s.od with
 |none=>rw[hz] at h;cases h
 |some z=>rw[hz] at h;simp only[cM,E4,V5] at h;obtain⟨u,rfl⟩:=h;rw[<-u];rfl
theorem KZ{d:Int×Int×Int×aR}{e:Option Int}(h:rK d.2.1 s=some (e,s')):fns 6 d s=some (aQ,e,XU s'):=by
 unfold rK at h;unfold fns wP nZ;cases hz:gC d.2.1 s.n s.fn s.YH s.XX s.blocks s.WX s.XS s.WT s.WU s.sent s.safe s.WW s.on s.YL s.XI s.first s.receiver s.XH s.y7 s.fd s.o5 s.od with
 |none=>rw[hz] at h;cases h
 |some z=>rw[hz] at h;simp only[cM,E4,V5] at h;obtain⟨u,rfl⟩:=h;rw[<-u];rfl
theorem AA{d:Int×Int×Int×aR}{e:Option Int}(h:lQ d.2.1 s=some (e,s')):fns 7 d s=some (aQ,e,XU s'):=by
 unfold lQ at h;unfold fns wP oA;cases hz:eS d.2.1 s.n s.fn s.YH s.XX s.blocks s.WX s.XS s.WT s.WU s.sent s.safe s.WW s.on s.YL s.XI s.first s.receiver s.XH s.y7 s.fd s.o5 s.od with
 |none=>rw[hz] at h;cases h
 |some z=>rw[hz] at h;simp only[cM,E4,V5] at h;obtain⟨u,rfl⟩:=h;rw[<-u];rfl
theorem AB{d:Int×Int×Int×aR}{e:Option Int}(h:lR d s=some (e,s')):fns 10 d s=some (aQ,e,XU s'):=by
 unfold lR at h;unfold fns wP nC;cases hz:eT d s.n s.fn s.YH s.XX s.blocks s.WX s.XS s.WT s.WU s.sent s.safe s.WW s.on s.YL s.XI s.first s.receiver s.XH s.y7 s.fd s.o5 s.od with
 |none=>rw[hz] at h;cases h
 |some z=>rw[hz] at h;simp only[cM,E4,V5] at h;obtain⟨u,rfl⟩:=h;rw[<-u];rfl
theorem Xi{d:Int×Int×Int×aR}{b:aR}{e:Option Int}(h:oY d.2.1 s=some (b,e,s)):fns 2 d s=some (b,e,XU s):=by
 unfold oY at h;unfold fns wP nV;cases hz:gB d.2.1 s.n s.fn s.YH s.XX s.blocks s.WX s.XS s.WT s.WU s.sent s.safe s.WW s.on s.YL s.XI s.first s.receiver s.XH s.y7 s.fd s.o5 s.od with
 |none=>rw[hz] at h;cases h
 |some z=>rw[hz] at h;simp only[cM,E4,V5] at h;obtain⟨u,A,_⟩:=h;rw[<-u,<-A];rfl
end Go.YO
namespace Go.YO
open Go Go.Sw Go.Mo Go.Pl
variable {v:Nm}{now:List aR}{snaps:List (List aR)}{s:PS}
theorem LA(bs:List aR)(h:bs.length<=1000000):jS bs=some bs:=by
 unfold jS;rw[WV _ _ (by simp;omega)];rfl
structure aLu (v v':Nm):Prop where
 n:v'.n=v.n
 h:v.h<=v'.h/\v'.h<=v.h+1
 k:v.k<=v'.k
 fb:v'.fb<=v.fb+1
 ob:v'.ob<=v.ob+1
 q:v'.q<=v.q+1
 x:v'.x<=v.x+1
def Ll(v:Nm)(now:List aR)(snaps:List (List aR))(s:PS)(d:Int×Int×Int×aR):Prop:=
 ∃(v':Nm) (U2:List aR) (l6:List (List aR)) (s':PS) (qF:Int) (j1:aR),iU now snaps d=some (qF,j1,U2,l6)/\
  nF d s=some ((qF,j1,(v'.h:Int),s'.safe,(v'.k:Int),l6.getD v'.k []),none,s')/\Inv v' U2 l6 s'/\aLu v v'
theorem pA(v:Nm):aLu v v:=⟨rfl,⟨ZY _,by omega⟩,ZY _,by omega,by omega,by omega,by omega⟩
theorem LC(h:Inv v now snaps s){a k:Int}{b:aR}(hb:l4 b):Ll v now snaps s (0,a,k,b):=by
 have C:=h.ep.bc;by_cases u:0<=a/\a<v.n
 ·obtain⟨F,G,B⟩:=KO h u hb;refine⟨v,_,snaps,F,0,aQ,?_,qV B (by omega) rfl (CY (d:=(0,a,k,b)) G),B,pA v⟩;obtain⟨z,H,_⟩:=xD (l:=now) (n:=a) u.1 (by rw[C];exact u.2);have D:cm .lss a (0:Int)=false:=by rw[cl];exact n9 (by omega)
  have E:cm .geq a (now.length:Int)=false:=by rw[O6];exact n9 (by omega)
  show ((bif cm .lss a (0:Int) then some true else some (cm .geq a (now.length:Int))).bind fun A=>bif A then some ((1:Int),aQ,now,snaps) else (Sw.idx now a).bind fun _=>some ((0:Int),aQ,(List.set now (Int.toNat a) b),snaps))=_;rw[D,E];simp only[pF,cM,H]
 ·refine⟨v,now,snaps,s,1,aQ,?_,qV h (by omega) rfl (CY (d:=(0,a,k,b)) (CT h (show a<0\/a>=v.n by omega))),h,pA v⟩;have c:(bif cm .lss a (0:Int) then some true else some (cm .geq a (now.length:Int)))=some true:=by
   rw[cl,O6];by_cases c:a<0
   ·rw[D5 c];rfl
   ·rw[n9 c,D5 (by omega)];rfl
  show ((bif cm .lss a (0:Int) then some true else some (cm .geq a (now.length:Int))).bind fun A=>bif A then some ((1:Int),aQ,now,snaps) else (Sw.idx now a).bind fun _=>some ((0:Int),aQ,(List.set now (Int.toNat a) b),snaps))=_;rw[c];rfl
theorem FQ(h:Inv v now snaps s){a k:Int}{b:aR}:Ll v now snaps s (1,a,k,b):=by
 have C:=h.ep.bc;by_cases u:0<=a/\a<v.n
 ·obtain⟨F,G,B⟩:=KO h u H8;refine⟨v,_,snaps,F,0,aQ,?_,qV B (by omega) rfl (Xf (d:=(1,a,k,b)) G),B,pA v⟩;obtain⟨z,H,_⟩:=xD (l:=now) (n:=a) u.1 (by rw[C];exact u.2);have D:cm .lss a (0:Int)=false:=by rw[cl];exact n9 (by omega)
  have E:cm .geq a (now.length:Int)=false:=by rw[O6];exact n9 (by omega)
  show ((bif cm .lss a (0:Int) then some true else some (cm .geq a (now.length:Int))).bind fun A=>bif A then some ((1:Int),aQ,now,snaps) else (Sw.idx now a).bind fun _=>some ((0:Int),aQ,(List.set now (Int.toNat a) aQ),snaps))=_;rw[D,E];simp only[pF,cM,H]
 ·refine⟨v,now,snaps,s,1,aQ,?_,qV h (by omega) rfl (Xf (d:=(1,a,k,b)) (CT h (show a<0\/a>=v.n by omega))),h,pA v⟩;have c:(bif cm .lss a (0:Int) then some true else some (cm .geq a (now.length:Int)))=some true:=by
   rw[cl,O6];by_cases c:a<0
   ·rw[D5 c];rfl
   ·rw[n9 c,D5 (by omega)];rfl
  show ((bif cm .lss a (0:Int) then some true else some (cm .geq a (now.length:Int))).bind fun A=>bif A then some ((1:Int),aQ,now,snaps) else (Sw.idx now a).bind fun _=>some ((0:Int),aQ,(List.set now (Int.toNat a) aQ),snaps))=_;rw[c];rfl
theorem FR(h:Inv v now snaps s){a k:Int}{b:aR}:Ll v now snaps s (2,a,k,b):=by
 have C:=h.ep.bc;by_cases u:0<=a/\a<v.n
 ·refine⟨v,now,snaps,s,0,now.getD a.toNat [],?_,qV h (by omega) rfl (Xi (d:=(2,a,k,b)) (OR h u)),h,pA v⟩;obtain⟨z,F,G⟩:=xD (l:=now) (n:=a) u.1 (by rw[C];exact u.2);have D:cm .lss a (0:Int)=false:=by rw[cl];exact n9 (by omega)
  have E:cm .geq a (now.length:Int)=false:=by rw[O6];exact n9 (by omega)
  show ((bif cm .lss a (0:Int) then some true else some (cm .geq a (now.length:Int))).bind fun A=>bif A then some ((1:Int),aQ,now,snaps) else (Sw.idx now a).bind fun B=>some ((0:Int),B,now,snaps))=_;rw[D,E];simp only[pF,cM,F];rw[V7,G];rfl
 ·refine⟨v,now,snaps,s,1,aQ,?_,qV h (by omega) rfl (Xi (d:=(2,a,k,b)) (KP h (show a<0\/a>=v.n by omega))),h,pA v⟩;have c:(bif cm .lss a (0:Int) then some true else some (cm .geq a (now.length:Int)))=some true:=by
   rw[cl,O6];by_cases c:a<0
   ·rw[D5 c];rfl
   ·rw[n9 c,D5 (by omega)];rfl
  show ((bif cm .lss a (0:Int) then some true else some (cm .geq a (now.length:Int))).bind fun A=>bif A then some ((1:Int),aQ,now,snaps) else (Sw.idx now a).bind fun B=>some ((0:Int),B,now,snaps))=_;rw[c];rfl
theorem Tz(h:Inv v now snaps s)(hb:v.h+1<=100000){a k:Int}{b:aR}:Ll v now snaps s (3,a,k,b):=by
 have D:=h.n1;have E:=h.hs;obtain⟨B,C,u⟩:=Zw h hb;refine⟨_,now,_,B,0,aQ,?_,qV u (by omega) rfl (Xg (d:=(3,a,k,b)) C),u,⟨rfl,by simp only;omega,ZY _,by simp only;omega,by simp only;omega,by simp only;omega,by simp only;omega⟩⟩;show ((jS now).bind fun z=>(Sw.app snaps ([z]:(List (List aR)))).bind fun A=>some ((0:Int),aQ,now,A))=_;rw[LA _ (by have:=h.ep.bc;omega),cM,WV _ _ (by simp;omega)];rfl
theorem FT(h:Inv v now snaps s){a k:Int}{b:aR}:Ll v now snaps s (4,a,k,b):=by
 obtain⟨z,A,u,_⟩:=CV h;exact⟨v,now,snaps,z,0,aQ,rfl,qV u (by omega) rfl (KY (d:=(4,a,k,b)) A),u,pA v⟩
theorem Ua(h:Inv v now snaps s)(kk:v.q+1<=100000)(ig:v.x+1<=100000){a k:Int}{b:aR}(ha:I9 a):Ll v now snaps s (5,a,k,b):=by
 obtain⟨E,F,G,z,A,B,C,D,u,_⟩:=Oq h kk ig ha;exact⟨_,now,snaps,z,0,aQ,rfl,qV u (by omega) rfl (Xh (d:=(5,a,k,b)) D),u,⟨rfl,by simp only;omega,A,by simp only;omega,by simp only;omega,B,C⟩⟩
theorem FU(h:Inv v now snaps s){a k:Int}{b:aR}(ha:I9 a):Ll v now snaps s (6,a,k,b):=by
 obtain⟨z,A,u⟩:=OS h ha;exact⟨v,now,snaps,z,0,aQ,rfl,qV u (by omega) rfl (KZ (d:=(6,a,k,b)) A),u,pA v⟩
theorem Xj(h:Inv v now snaps s){a k:Int}{b:aR}(ha:I9 a):Ll v now snaps s (7,a,k,b):=by
 obtain⟨z,A,u⟩:=FE h ha;exact⟨v,now,snaps,z,0,aQ,rfl,qV u (by omega) rfl (AA (d:=(7,a,k,b)) A),u,pA v⟩
theorem Xk(h:Inv v now snaps s)(hb:v.fb+1<=3000){a k:Int}{b:aR}:Ll v now snaps s (8,a,k,b):=by
 have H:=h.F9;have I:=h.hs;have K:=h.n1;obtain⟨F,G,_,u⟩:=FI h hb (8,a,k,b);refine⟨_,_,snaps,F,0,aQ,?_,qV (i:=8) u (by omega) rfl G,u,⟨rfl,by simp only;omega,ZY _,ZY _,by simp only;omega,by simp only;omega,by simp only;omega⟩⟩;have z:snaps.getD v.h []∈snaps:=by
  rw[V7,J0 (by omega)];exact il _
 show ((fK (now,snaps)).bind fun C=>(Sw.idx snaps C).bind fun D=>(jS D).bind fun E=>some ((0:Int),aQ,E,snaps))=_;have A:fK (now,snaps)=some (v.h:Int):=by
  unfold fK;rw[T5 (by simp only;omega)];simp only;congr 1;omega
 have B:Sw.idx snaps (v.h:Int)=some (snaps.getD v.h []):=sG (by rw[V7,J0 (by omega)];rfl);rw[A,cM,B,cM,LA _ (by have:=h.ep.len _ z;omega)];rfl
theorem Xl(h:Inv v now snaps s)(hb:v.ob+1<=3000){a k:Int}{b:aR}:Ll v now snaps s (9,a,k,b):=by
 obtain⟨z,A,_,u⟩:=FJ h hb (9,a,k,b);exact⟨_,now,snaps,z,0,aQ,rfl,qV (i:=9) u (by omega) rfl A,u,⟨rfl,by simp only;omega,ZY _,by simp only;omega,ZY _,by simp only;omega,by simp only;omega⟩⟩
theorem Xm(h:Inv v now snaps s){a k:Int}{b:aR}(ha:I9 a)(hk:I9 k)(hb:l4 b):Ll v now snaps s (10,a,k,b):=by
 obtain⟨z,A,u⟩:=FH h (d:=(10,a,k,b)) ha hk hb;exact⟨v,now,snaps,z,0,aQ,rfl,qV u (by omega) rfl (AB (d:=(10,a,k,b)) A),u,pA v⟩
theorem UC(h:Inv v now snaps s)(hb:v.h+1<=100000/\v.fb+1<=3000/\v.ob+1<=3000/\v.q+1<=100000/\v.x+1<=100000){d:Int×Int×Int×aR}(h1:I9 d.2.1)(h2:I9 d.2.2.1)(h3:l4 d.2.2.2):Ll v now snaps s d:=by
 obtain⟨c,a,k,b⟩:=d;simp only at h1 h2 h3;by_cases z:c<0\/11<=c
 ·refine⟨v,now,snaps,s,3,aQ,?_,OW h z,h,pA v⟩;have A:(bif (cm .lss c (0:Int)) then some true else some (cm .geq c (11:Int)))=some true:=by
   rw[cl,O6];by_cases u:c<0
   ·rw[D5 u];rfl
   ·rw[n9 u,D5 (by omega)];rfl
  unfold iU;rw[A];rfl
 ·have B:c=0\/c=1\/c=2\/c=3\/c=4\/c=5\/c=6\/c=7\/c=8\/c=9\/c=10:=by omega
  rcases B with rfl | rfl | rfl | rfl | rfl | rfl | rfl | rfl | rfl | rfl | rfl
  ·exact LC h h3
  ·exact FQ h
  ·exact FR h
  ·exact Tz h hb.1
  ·exact FT h
  ·exact Ua h hb.2.2.2.1 hb.2.2.2.2 h1
  ·exact FU h h1
  ·exact Xj h h1
  ·exact Xk h hb.2.1
  ·exact Xl h hb.2.2.1
  ·exact Xm h h1 h2 h3
end Go.YO
namespace Go.YO
open Go Go.Sw Go.Mo Go.Pl
abbrev lS:=Int×Int×Int×aR
abbrev Ix:=Int×aR×Int×Int×Int×List aR
def wQ(d:lS):Prop:=I9 d.2.1/\I9 d.2.2.1/\l4 d.2.2.2
inductive ff:Nm->List aR->List (List aR)->PS->List lS->List Ix->Nm->List aR->List (List aR)->PS->Prop where
 |nil {v now snaps s} (h:Inv v now snaps s):ff v now snaps s [] [] v now snaps s
 |cons {v now snaps s v' U2 l6 s' v2 y0 YD s2} {d:lS} {ds:List lS} {rs:List Ix} {qF:Int} {j1:aR} (h:Inv v now snaps s) (hc:iU now snaps d=some (qF,j1,U2,l6))
   (hd:nF d s=some ((qF,j1,(v'.h:Int),s'.safe,(v'.k:Int),l6.getD v'.k []),none,s')) (h':Inv v' U2 l6 s') (g:aLu v v') (t:ff v' U2 l6 s' ds rs v2 y0 YD s2):
   ff v now snaps s (d::ds) ((qF,j1,(v'.h:Int),s'.safe,(v'.k:Int),l6.getD v'.k [])::rs) v2 y0 YD s2
theorem CZ:∀(ds:List lS) {v:Nm} {now:List aR} {snaps:List (List aR)} {s:PS},Inv v now snaps s->(∀d∈ds,wQ d)->v.h+ds.length<=100000->v.fb+ds.length<=3000->v.ob+ds.length<=3000->v.q+ds.length<=100000->v.x+ds.length<=100000->
  ∃rs v2 y0 YD s2,ff v now snaps s ds rs v2 y0 YD s2/\rs.length=ds.length/\Inv v2 y0 YD s2
 | [],v,now,snaps,s,h,_,_,_,_,_,_=>⟨[],v,now,snaps,s,.nil h,rfl,h⟩
 |d::ds,v,now,snaps,s,h,A,L,M,N,O,P=>by
  simp only[H6] at L M N O P;obtain⟨C,D,E⟩:=A d (dg ..);obtain⟨V,X,l6,s',qF,j1,F,G,z,u⟩:=UC h (by omega) C D E;have Q:=u.h;have R:=u.fb;have S:=u.ob;have T:=u.q;have U:=u.x;obtain⟨rs,v2,y0,YD,s2,H,I,K⟩:=CZ ds z (fun x B=>A x (cz _ B)) (by omega) (by omega) (by omega) (by omega) (by omega);exact⟨_,v2,y0,YD,s2,.cons h F G z u H,by simp[I],K⟩
theorem AD{n:Nat}(h0:1<=n)(h1:n<=32){ds:List lS}(hl:ds.length<=300)(hd:∀d∈ds,wQ d):
  ∃s0 rs v2 y0 YD s2,iN (n:Int)=some (some (XU s0),none)/\Inv ⟨n,0,1,1,0,0,0⟩ (List.replicate n aQ) [List.replicate n aQ] s0/\
   ff ⟨n,0,1,1,0,0,0⟩ (List.replicate n aQ) [List.replicate n aQ] s0 ds rs v2 y0 YD s2/\rs.length=ds.length/\Inv v2 y0 YD s2:=by
 obtain⟨u,z,A,B,C⟩:=KJ h0 h1;have h:=FD h0 h1 A B;obtain⟨rs,v2,y0,YD,s2,D,E,F⟩:=CZ ds h hd (by simp only;omega) (by simp only;omega) (by simp only;omega) (by simp only;omega) (by simp only;omega);exact⟨Ka n u z,rs,v2,y0,YD,s2,C,h,D,E,F⟩
def QC(i:Int)(s:PS)(rs:List Ix):=(i,s.n,s.fn,s.YH,s.XX,s.WX,s.WT,s.WU,s.sent,s.safe,s.on,s.YL,s.XI,s.first,s.receiver,rs,s.y7,s.fd,s.blocks,s.XS,s.WW,s.o5,s.od,s.XH)
theorem LD{δ:Type}{step:_->Option (Step _ δ)}{l:List lS}{fin:PS->List Ix->δ}
  (hs:∀(i:Nat) (d:lS) (s s':PS) (acc:List Ix) (r:Ix),l[i]? =some d->i<=1000->acc.length<=1000->nF d s=some (r,none,s')->step (QC (i:Int) s acc)=some (.next (QC ((i+1:Nat):Int) s' (acc++[r]))))
  (he:∀(s:PS) (acc:List Ix),step (QC (l.length:Int) s acc)=some (.done (fin s acc))) (hl:l.length<=1000):
  ∀{v now snaps s ds rs v2 y0 YD s2},ff v now snaps s ds rs v2 y0 YD s2->∀(pre:List lS) (acc:List Ix) (f:Nat),l=pre++ds->acc.length=pre.length->ds.length<f->
   loop step f (QC (pre.length:Int) s acc)=some (fin s2 (acc++rs)):=by
 intro v now snaps s ds rs v2 y0 YD s2 t
 induction t with
 |nil h=>
  intro pre acc f u B z;obtain⟨f,rfl⟩:∃g,f=g+1:=⟨f - 1,by simp at z;omega⟩;have:pre=l:=by simpa using u.symm
  rw[this,Go.YA.ZX (he _ _),cw]
 |cons h F C G g t D=>
  rename_i d ds rs qF j1;intro pre acc f u B z;simp only[H6] at z;obtain⟨f,rfl⟩:∃g,f=g+1:=⟨f - 1,by omega⟩;have E:l.length=pre.length+ds.length+1:=by rw[u];simp;omega
  rw[Go.YA.m5 (hs pre.length d _ _ acc _ (by rw[u];simp) (by omega) (by omega) C)];have A:=fun r:Ix=>D (pre++[d]) (acc++[r]) f (by rw[u];simp) (by simp[B]) (by omega);simp only[sM,aCw,H7,aDk] at A ⊢;exact A _
theorem RN{n:Nat}(h0:1<=n)(h1:n<=32){ds:List lS}(hl:ds.length<=300){s0:PS}(ZM:iN (n:Int)=some (some (XU s0),none)){v now snaps rs v2 y0 YD s2}(t:ff v now snaps s0 ds rs v2 y0 YD s2):
  iT (n:Int) ds=some (some (XU s2),rs,none):=by
 have A:cm .lss (n:Int) (1:Int)=false:=by rw[cl];exact n9 (by omega)
 have B:cm .gtr (n:Int) (32:Int)=false:=by rw[cg];exact n9 (by omega)
 have C:cm .gtr (ds.length:Int) (300:Int)=false:=by rw[cg];exact n9 (by omega)
 unfold iT;rw[A,B,C];simp only[pF,cM];rw[ZM,cM];simp only[vF,p7,pF];unfold lp
 rw[show (((0:Int),(XU s0).1,(XU s0).2.1,(XU s0).2.2.1,(XU s0).2.2.2.1,(XU s0).2.2.2.2.2.1,(XU s0).2.2.2.2.2.2.2.1,(XU s0).2.2.2.2.2.2.2.2.1,(XU s0).2.2.2.2.2.2.2.2.2.1,(XU s0).2.2.2.2.2.2.2.2.2.2.1,(XU s0).2.2.2.2.2.2.2.2.2.2.2.2.1,(XU s0).2.2.2.2.2.2.2.2.2.2.2.2.2.1,(XU s0).2.2.2.2.2.2.2.2.2.2.2.2.2.2.1,(XU s0).2.2.2.2.2.2.2.2.2.2.2.2.2.2.2.1,(XU s0).2.2.2.2.2.2.2.2.2.2.2.2.2.2.2.2.1,([]:(List (Int×aR×Int×Int×Int×(List aR)))),(XU s0).2.2.2.2.2.2.2.2.2.2.2.2.2.2.2.2.2.2.1,(XU s0).2.2.2.2.2.2.2.2.2.2.2.2.2.2.2.2.2.2.2.1,(XU s0).2.2.2.2.1,(XU s0).2.2.2.2.2.2.1,(XU s0).2.2.2.2.2.2.2.2.2.2.2.1,(XU s0).2.2.2.2.2.2.2.2.2.2.2.2.2.2.2.2.2.2.2.2.1,(XU s0).2.2.2.2.2.2.2.2.2.2.2.2.2.2.2.2.2.2.2.2.2,(XU s0).2.2.2.2.2.2.2.2.2.2.2.2.2.2.2.2.2.1))=QC ((([]:List lS).length:Nat):Int) s0 [] from rfl,
  LD (l:=ds) (fin:=fun s rs=>Ex.XT (QC 0 s rs).2) ?_ ?_ (by omega) t [] [] fL rfl rfl (by unfold fL;omega)]
 ·rfl
 ·intro i d s H acc r u I K h;unfold nF at h;have G:i<ds.length:=(aCb.1 u).1;have D:cm .lss (i:Int) (ds.length:Int)=true:=by rw[cl];exact D5 (by omega)
  simp only[QC];rw[D,YX,sG u,cM];cases hz:iC d s.n s.fn s.YH s.XX s.blocks s.WX s.XS s.WT s.WU s.sent s.safe s.WW s.on s.YL s.XI s.first s.receiver s.XH s.y7 s.fd s.o5 s.od with
  |none=>rw[hz] at h;cases h
  |some z=>
   rw[hz] at h;simp only[cM,E4,V5] at h;obtain⟨rfl,F,rfl⟩:=h;rw[cM];simp only[F,p7,pF];rw[WV _ _ (by simp;omega),cM,C2 (by omega)]
 ·intro s acc;have E:cm .lss (ds.length:Int) (ds.length:Int)=false:=by rw[cl];exact n9 (by omega)
  simp only[QC];rw[E,pF]
theorem AE{n:Nat}(h1:n<=32):kV (n:Int)=some (some (List.replicate n aQ,[List.replicate n aQ])):=by
 have h:Sw.mk (n:Int) aQ=some (List.replicate n aQ):=by
  unfold Sw.mk;rw[YC (by omega)];simp
 unfold kV;rw[h,cM,cM,WV _ _ (by simp)];rfl
end Go.YO
namespace Go.YO
open Go Go.Sw Go.Mo Go.Pl
open Go.YA (Good bM fB dQ eB qT oX fJ pX)
variable {v:Nm}{now:List aR}{snaps:List (List aR)}{s:PS}
inductive A7:PS->PS->Nat->Prop
 |nil {s:PS} (h:s.XH=[]):A7 s s 0
 |cons {s s1 s2:PS} {n:Nat} (h:s.XH≠ []) (hd:cW 0 s=some (none,s1)) (t:A7 s1 s2 n):A7 s s2 (n+1)
structure Alike (v v':Nm):Prop where
 n:v'.n=v.n
 h:v'.h=v.h
 fb:v'.fb=v.fb
 ob:v'.ob=v.ob
theorem RO{l:List (Bool×Bool×List Int)}(h:l≠ []):1<=wt l:=by
 cases l with
 |nil=>exact absurd rfl h
 |cons a l=>
  have:wt (a::l)=(bif a.1 then 2 else 1)+wt l:=by unfold wt;simp
  rw[this];cases a.1<;>simp<;>omega
theorem Xn:∀(w:Nat) {v:Nm} {s:PS},Inv v now snaps s->wt s.XH<=w->v.q+w<=100000->v.x+w<=100000->
  ∃v' s' n,A7 s s' n/\n<=w/\Inv v' now snaps s'/\s'.XH=[]/\Alike v v'/\v'.q<=v.q+w/\v'.x<=v.x+w
 |w,v,s,h,R,S,T=>by
  by_cases z:s.XH=[]
  ·exact⟨v,s,0,.nil z,by omega,h,z,⟨rfl,rfl,rfl,rfl⟩,by omega,by omega⟩
  ·have:=RO z;obtain⟨w,rfl⟩:∃u,w=u+1:=⟨w - 1,by omega⟩;obtain⟨K,L,M,s1,N,O,P,C,D,B⟩:=Oq h (by omega) (by omega) (a:=0) (by unfold I9;omega);have B:=B z;obtain⟨v',s',n,E,Q,F,G,A,H,I⟩:=Xn w D (by omega) (by simp only;omega) (by simp only;omega);simp only at H I;exact⟨v',s',n+1,.cons z C E,by omega,F,G,⟨A.n,A.h,A.fb,A.ob⟩,by omega,by omega⟩
theorem Hd(h:Inv v now snaps s){d:Bool}{f:Fm}{r:List (Bool×Bool×List Int)}(g:Good f)(hn:s.XH=(d,false,bM f)::r):(d=true->Dy v snaps s f)/\(d=false->Fl v snaps s f):=by
 have u:=h.XH (d,false,bM f) (by rw[hn];exact dg);obtain⟨z,A,B,C,D⟩:=u.whole rfl;have e:z=f:=by
  have:=congrArg fB B;simp only at this;rw[fJ A,fJ g] at this;exact(pT this).symm
 subst e;exact⟨C,D⟩
theorem Gg{f:Fm}(g:Good f):fH (bM f)=some (f,none):=by
 have h:=oX (bM f) (pX g) (by have:=(m4 g).2;omega);rw[fJ g] at h;exact h
theorem Iy(h:Inv v now snaps s){y:Bool×Bool×List Int}{r:List (Bool×Bool×List Int)}(hn:s.XH=y::r):Inv v now snaps { s with XH:=r }:=
 h.T6 (by have:=h.M0;rw[hn] at this;simp only[H6] at this;omega) (fun x u=>h.XH x (by rw[hn];exact cz _ u))
theorem Lh{l:List (Bool×Bool×List Int)}{y}(h:l.length<64):mH l y=l++[y]:=by unfold mH;rw[YC h]
theorem AF(h:Inv v now snaps s)(hf:s.first=v.fb):s.receiver=(kN v.fb v.ob,(v.x:Int)):=by
 rcases h.first with⟨u,_⟩|⟨g,u,A,B,z⟩
 ·omega
 ·have:g=v.fb:=by omega
  rw[z,this]
theorem AG(h:Inv v now snaps s):s.WT<=kN v.fb v.ob:=by
 have:=wC v.fb v.ob;rcases h.WT with c |⟨o,z,A,u,_⟩
 ·omega
 ·rw[u];unfold kN;omega
theorem Ot(h:Inv v now snaps s){r:List (Bool×Bool×List Int)}(hr:r.length<=10)(hn:s.XH=(true,false,bM (jV v.fb))::r):
  ∃x' s',cW 0 s=some (none,s')/\Inv { v with x:=x' } now snaps s'/\x'<=v.x/\s'.first=v.fb/\s'.WT=s.WT/\s'.WU=s.WU/\s'.sent=s.sent/\
   ∃x y,Good (dX v.fb v.ob v.k [x,y])/\s'.XH=r++[(false,false,bM (dX v.fb v.ob v.k [x,y]))]:=by
 have P:=h.F9;have Q:=h.kh;have R:=h.hs;have S:=h.n1;have T:=h.n0;obtain⟨V,A⟩:=On (g:=v.fb) (by omega);obtain⟨x',s',B,C,D,_,E⟩:=Rz (Iy h hn) h.pos.1 (ZY _) (Gg A);obtain⟨F,G,H,I,X,c6,x,y,K,L⟩:=E rfl;have z:snaps.getD v.k []∈snaps:=by
  rw[V7,J0 (by omega)];exact il _
 have U:(snaps.getD v.k []).length=v.n:=h.ep.len _ z;obtain⟨x2,y2,u,M,N⟩:=Zv (bs:=snaps.getD v.k []) (by omega) (by omega) (h.bok _ z);rw[K] at u;simp only[E4,aC0,aEi] at u;obtain⟨rfl,rfl⟩:=u;obtain⟨wf,O⟩:=Iv (g:=v.fb) (o:=v.ob) (j:=v.k) (t:=[x,y]) (by omega) (by omega) (by omega) rfl M N;refine⟨x',s',by rw[xG h hn,KV];exact C,D,B,F,G,H,I,x,y,O,?_⟩;rw[L,Lh (by simp only;omega)]
theorem R7{S:Int}{a:Nat}(hS:0<=S/\S<=2147483647)(ha:a<=2147483647):Good (tF S a):=by
 refine⟨by unfold tF;simp,by unfold tF;simp,by unfold tF;simp,by unfold tF;simp,fun n h=>?_,fun b u=>by simp[tF] at u⟩;simp only[tF,B1,aCm,aEl] at h;rcases h with rfl | rfl<;>omega
theorem FV(h:Inv v now snaps s)(ig:v.x+1<=100000)(hS:0<=s.WT){m:Fm}(hq:s.WU.2.2=[m])(hm:J2 m){r:List (Bool×Bool×List Int)}(hr:r.length<=10)(hf:s.first=v.fb)
  (hn:s.XH=(true,false,bM (XW s.WT v.q m))::r):
  ∃k' x' s',cW 0 s=some (none,s')/\Inv { v with k:=k',x:=x' } now snaps s'/\x'<=v.x+1/\s'.first=v.fb/\s'.WT=s.WT/\s'.WU=s.WU/\s'.sent=s.sent/\
   ((s.WT=kN v.fb v.ob/\s'.XH=r++[(false,false,bM (tF s.WT (v.q+1)))])\/(s.WT≠kN v.fb v.ob/\s'.XH=r)):=by
 have o6:=h.F9;have F:=Mi h;have u:=H2 hm (S:=s.WT) (q:=v.q) ⟨hS,F⟩ (by omega);have G:=(Hd h u hn).1 rfl;rcases G with⟨g,_,_,c⟩|⟨S,q,m',e,a2,X,a4,a5⟩
 ·simp[XW,jV] at c
 ·have aa:=u;simp only[XW,V5,fy,Z1,aC0,aEa] at e;obtain⟨⟨I,A,C,D⟩,E⟩:=e;have A:v.q=q:=by omega
  obtain rfl:m=m':=by
   obtain⟨x,y,z⟩:=m;obtain⟨x',y',z'⟩:=m';simp only at C D E;subst C D E;rfl
  subst I A;have H:=fJ u;obtain⟨k',x',s',b1,K,L,M,_,N,O⟩:=Xd (Iy h hn) ig (pX u) (by have:=(m4 u).2;omega) H hm X a4 a5;have B:=AF h hf;refine⟨k',x',s',by rw[xG h hn,KV];exact L,M,K,?_⟩;by_cases c:s.WT=kN v.fb v.ob
  ·obtain⟨_,P,Q,R,T,_,U⟩:=O (by simp only;omega) (by simp only;rw[B,c]) rfl rfl;refine⟨by rw[P];exact hf,Q,R,T,.inl ⟨c,?_⟩⟩;rw[U,Lh (by simp only;omega)]
  ·obtain⟨V,_,_⟩:=N (by simp only;rw[B];exact c);subst V;exact⟨hf,rfl,rfl,rfl,.inr ⟨c,rfl⟩⟩
theorem By(h:Inv v now snaps s){j:Nat}{x y:Int}{r:List (Bool×Bool×List Int)}(hg:Good (dX v.fb v.ob j [x,y]))(hn:s.XH=(false,false,bM (dX v.fb v.ob j [x,y]))::r):
  ∃q' s',cW 0 s=some (none,s')/\Inv { v with q:=q' } now snaps s'/\q'<=v.q/\s'.first=s.first/\s'.XH=r/\
   ((s.WT<kN v.fb v.ob/\s'.WT=kN v.fb v.ob/\s'.WU.2.2=[])\/(s.WT=kN v.fb v.ob/\q'=v.q/\s'.WT=s.WT/\s'.WU=s.WU/\s'.sent=s.sent)):=by
 have Q:=h.F9;have R:=AG h;rcases (Hd h hg hn).2 rfl with⟨g,o,j',t,e,T,U,V,X,O,P,B⟩|⟨S,a,e,_⟩
 ·simp only[dX,V5,fy,Z1,aC0,aEa,aEi] at e;obtain⟨u,z,A,D⟩:=e;have u:v.fb=g:=by omega
  have z:v.ob=o:=by omega
  have A:j=j':=by omega
  subst A D;rw[<-u,<-z] at B;have C:=B rfl rfl;obtain⟨q',s',E,F,G,H,I,K,L⟩:=Lg (Iy h hn) (Gg hg) h.pos.2 (ZY _) O P (fun _=>C);refine⟨q',s',by rw[xG h hn,KW];exact F,G,E,I,H,?_⟩;by_cases c:s.WT<kN v.fb v.ob
  ·exact .inl ⟨c,K c⟩
  ·obtain⟨M,N⟩:=L c;subst M;exact .inr ⟨by omega,N,rfl,rfl,rfl⟩
 ·simp[dX,tF] at e
theorem LF(h:Inv v now snaps s)(kk:v.q+1<=100000)(hS:0<=s.WT){m:Fm}(hq:s.WU.2.2=[m]){r:List (Bool×Bool×List Int)}(hn:s.XH=(false,false,bM (tF s.WT (v.q+1)))::r):
  ∃q' s',cW 0 s=some (none,s')/\Inv { v with q:=q' } now snaps s'/\q'<=v.q+1/\s'.first=s.first/\s'.XH=r/\s'.WT=s.WT/\s'.WU.2.2=[]/\s'.sent=s.sent:=by
 have N:=h.F9;have A:=Mi h;have u:=R7 (S:=s.WT) (a:=v.q+1) ⟨hS,A⟩ (by omega);rcases (Hd h u hn).2 rfl with⟨g,o,O,t,e,_⟩|⟨S,a,e,P,M,Q⟩
 ·simp[dX,tF] at e
 ·simp only[tF,V5,aC0,aEa,aEi] at e;obtain⟨B,z⟩:=e;have z:v.q+1=a:=by omega
  subst B z;obtain⟨q',s',C,D,E,F,G⟩:=CX (Iy h hn) kk (pX u) (by have:=(m4 u).2;omega) (fJ u) M;obtain⟨H,I,K,L⟩:=G hS rfl rfl (by simp only;rw[hq];rfl);exact⟨q',s',by rw[xG h hn,KW];exact D,E,C,H,F,I,K,L⟩
theorem Xo(h:Inv v now snaps s)(hn:s.XH=[])(hq:v.q+1<=100000)(hx:v.x+1<=100000):
  ∃s1 v' s' n,fU s=some (none,s1)/\A7 s1 s' n/\n<=4/\Inv v' now snaps s'/\s'.XH=[]/\Alike v v'/\v'.q<=v.q+1/\v'.x<=v.x+1/\
   s'.WT=kN v.fb v.ob/\s'.WU.2.2=[]/\(s.WT=kN v.fb v.ob->s.WU.2.2=[]->s'.sent=v.h):=by
 have aa:=wC v.fb v.ob;obtain⟨s1,L,i1,f1,g1,c⟩:=CV h;have p1:∀y,mH ([]:List (Bool×Bool×List Int)) y=[y]:=fun y=>rfl;have p2:∀x y,mH [x] y=([x,y]:List (Bool×Bool×List Int)):=fun x y=>rfl;have one:s1.XH=[(true,false,bM (jV v.fb))]->((s.WT<0)\/(0<=s.WT/\s1.WU.2.2=[]/\s1.sent=v.h))->
   ∃v' s' n,A7 s1 s' n/\n<=4/\Inv v' now snaps s'/\s'.XH=[]/\Alike v v'/\v'.q<=v.q+1/\v'.x<=v.x+1/\s'.WT=kN v.fb v.ob/\s'.WU.2.2=[]/\(s.WT=kN v.fb v.ob->s.WU.2.2=[]->s'.sent=v.h):=by
  intro O9 hc;obtain⟨U,s2,M,V,d3,d4,X,N,d7,x,y,O,u⟩:=Ot i1 (r:=[]) (by simp) O9;rw[Z1] at u;obtain⟨q',s3,P,Q,b3,b4,D,G⟩:=By (v:={ v with x:=U }) V (r:=[]) O u;simp only at b3 G;refine⟨_,s3,2,.cons (by rw[O9];simp) M (.cons (by rw[u];simp) P (.nil D)),by omega,Q,D,⟨rfl,rfl,rfl,rfl⟩,by simp only;omega,by simp only;omega,?_⟩;rw[X,g1] at G;rcases G with⟨z,A,z3⟩|⟨z,A,z3,z4,z5⟩
  ·exact⟨A,z3,fun c=>by omega⟩
  ·rcases hc with c |⟨C,B,I⟩
   ·omega
   ·exact⟨by rw[z3,z],by rw[z4,N,B],fun _ _=>by rw[z5,d7,I]⟩
 rcases c with⟨C,B⟩|⟨C,B,I,R⟩|⟨C,m,B,I,R,S⟩
 ·rw[hn,p1] at B;obtain⟨v',s',n,r⟩:=one B (.inl C);exact⟨s1,v',s',n,L,r⟩
 ·rw[hn,p1] at R;obtain⟨v',s',n,r⟩:=one R (.inr ⟨C,B,I⟩);exact⟨s1,v',s',n,L,r⟩
 ·rw[hn,p1,p2] at S;obtain⟨U,s2,M,V,d3,d4,X,N,d7,x,y,O,u⟩:=Ot i1 (r:=[_]) (by simp) S;rw[aDk] at u;have K:s2.WT=s.WT:=by rw[X,g1]
  rw[<-K] at u;obtain⟨k',x2,s3,P,Q,b3,b4,D,G,b7,b8⟩:=FV (v:={ v with x:=U }) V (by simp only;omega) (by rw[K];exact C) (m:=m) (by rw[N,B]) I (r:=[_]) (by simp) d4 u;simp only at b3 b4 b8;rcases b8 with⟨z,A⟩|⟨z,A⟩
  ·rw[aDk] at A;obtain⟨q',s4,w1,w2,w3,w4,E,H⟩:=By (v:={ v with k:=k',x:=x2 }) Q (j:=v.k) (x:=x) (y:=y) (r:=[_]) O A;simp only at w3 H;rcases H with⟨F,_⟩|⟨F,y2,y3,y4,y5⟩
   ·rw[D,z] at F;omega
   ·have T:s4.WT=s2.WT:=(by rw[y3,D]);rw[<-T,<-y2] at E;obtain⟨q3,s5,t1,t2,t3,t4,t5,t6,t7,t8⟩:=LF (v:={ v with k:=k',q:=q',x:=x2 }) w2 (by simp only;omega) (by rw[T,K];exact C) (m:=m) (by rw[y4,G,N,B]) (r:=[]) E;simp only at t3;refine⟨s1,_,s5,4,L,.cons (by rw[S];simp) M (.cons (by rw[u];simp) P (.cons (by rw[A];simp) w1 (.cons (by rw[E];simp) t1 (.nil t5)))),ZY _,t2,t5,⟨rfl,rfl,rfl,rfl⟩,by simp only;omega,by simp only;omega,by rw[t6,T,z],t7,fun _ e=>?_⟩;rw[t8,y5,b7,d7];exact R e
  ·obtain⟨q',s4,w1,w2,w3,w4,E,H⟩:=By (v:={ v with k:=k',x:=x2 }) Q (j:=v.k) (x:=x) (y:=y) (r:=[]) O A;simp only at w3 H;rcases H with⟨F,y2,y3⟩|⟨F,_⟩
   ·refine⟨s1,_,s4,3,L,.cons (by rw[S];simp) M (.cons (by rw[u];simp) P (.cons (by rw[A];simp) w1 (.nil E))),by omega,w2,E,⟨rfl,rfl,rfl,rfl⟩,by simp only;omega,by simp only;omega,y2,y3,fun e=>?_⟩;rw[K,e] at z;exact absurd rfl z
   ·rw[D] at F;exact absurd F z
theorem FY(h:Inv v now snaps s)(hq:s.WU.2.2=[])(hs:s.sent=v.h):s.safe=v.h:=by
 have u:=h.low hq;have z:=h.safe;have A:=h.kh;omega
end Go.YO
namespace Go.YO
open Go Go.Sw Go.Mo Go.Pl
variable {v:Nm}{now:List aR}{snaps:List (List aR)}{s:PS}
abbrev FZ:=(Int×(List (Int×aR))×(List (Int×(List (Int×aR))))×Bool)×Int×(Int×Int×(List (Int×(List Int)×(List aR))))×Int×Int×Int×Int×(Int×Int)×(List Int)×Int×((List aR)×(List (Int×aR))×Int)×(List (Bool×Bool×(List Int)))
def lA(s:PS):FZ:=(s.WX,s.WT,s.WU,s.sent,s.safe,s.YL,s.first,s.receiver,s.WW,s.o5,s.od,s.XH)
def pB(z:PS)(t:FZ):PS:={ z with WX:=t.1,WT:=t.2.1,WU:=t.2.2.1,sent:=t.2.2.2.1,safe:=t.2.2.2.2.1,YL:=t.2.2.2.2.2.1,first:=t.2.2.2.2.2.2.1,receiver:=t.2.2.2.2.2.2.2.1,WW:=t.2.2.2.2.2.2.2.2.1,o5:=t.2.2.2.2.2.2.2.2.2.1,od:=t.2.2.2.2.2.2.2.2.2.2.1,XH:=t.2.2.2.2.2.2.2.2.2.2.2 }
theorem zC{z s s':PS}(hz:s=pB z (lA s))(hd:cW 0 s=some (none,s')):s'=pB z (lA s')/\
  cT 0 z.n z.fn z.YH z.XX z.blocks s.WX z.XS s.WT s.WU s.sent s.safe s.WW z.on s.YL z.XI s.first s.receiver s.XH z.y7 z.fd s.o5 s.od=
   some (none,s'.WX,s'.WT,s'.WU,s'.sent,s'.safe,s'.WW,s'.YL,s'.first,s'.receiver,s'.XH,s'.o5,s'.od):=by
 generalize lA s=t at hz;subst hz;unfold cW at hd;cases hm:cT 0 (pB z t).n (pB z t).fn (pB z t).YH (pB z t).XX (pB z t).blocks (pB z t).WX (pB z t).XS (pB z t).WT (pB z t).WU (pB z t).sent (pB z t).safe (pB z t).WW (pB z t).on (pB z t).YL (pB z t).XI (pB z t).first (pB z t).receiver (pB z t).XH (pB z t).y7 (pB z t).fd (pB z t).o5 (pB z t).od with
 |none=>rw[hm] at hd;cases hd
 |some r=>
  obtain⟨h,u⟩:=r;rw[hm] at hd;simp only[cM,E4,V5] at hd;obtain⟨rfl,rfl⟩:=hd;exact⟨rfl,hm⟩
theorem Ou{z s s':PS}(hz:s=pB z (lA s))(hd:fU s=some (none,s')):s'=pB z (lA s')/\s'.WX=s.WX/\s'.WT=s.WT/\s'.safe=s.safe/\s'.YL=s.YL/\s'.first=s.first/\s'.receiver=s.receiver/\s'.o5=s.o5/\s'.od=s.od/\
  dI z.n z.fn z.YH z.XX z.blocks s.WX z.XS s.WT s.WU s.sent s.safe s.WW z.on s.YL z.XI s.first s.receiver s.XH z.y7 z.fd s.o5 s.od=
   some (none,s'.WU,s'.sent,s'.WW,s'.XH):=by
 generalize lA s=t at hz;subst hz;unfold fU at hd;cases hm:dI (pB z t).n (pB z t).fn (pB z t).YH (pB z t).XX (pB z t).blocks (pB z t).WX (pB z t).XS (pB z t).WT (pB z t).WU (pB z t).sent (pB z t).safe (pB z t).WW (pB z t).on (pB z t).YL (pB z t).XI (pB z t).first (pB z t).receiver (pB z t).XH (pB z t).y7 (pB z t).fd (pB z t).o5 (pB z t).od with
 |none=>rw[hm] at hd;cases hd
 |some r=>
  obtain⟨h,u⟩:=r;rw[hm] at hd;simp only[cM,E4,V5] at hd;obtain⟨rfl,rfl⟩:=hd;exact⟨rfl,rfl,rfl,rfl,rfl,rfl,rfl,rfl,rfl,hm⟩
theorem LG{z s:PS}(hz:s=pB z (lA s))(h:Inv v now snaps s)(r:Int×aR×Int×Int×Int×List aR):
  dZ r z.n z.fn z.YH z.XX z.blocks s.WX z.XS s.WT s.WU s.sent s.safe s.WW z.on s.YL z.XI s.first s.receiver s.XH z.y7 z.fd s.o5 s.od=some ((r.1,r.2.1,(v.h:Int),s.safe,(v.k:Int),snaps.getD v.k []),none):=by
 have u:=Ty h r;generalize lA s=t at hz;subst hz;unfold rL at u;cases hm:dZ r (pB z t).n (pB z t).fn (pB z t).YH (pB z t).XX (pB z t).blocks (pB z t).WX (pB z t).XS (pB z t).WT (pB z t).WU (pB z t).sent (pB z t).safe (pB z t).WW (pB z t).on (pB z t).YL (pB z t).XI (pB z t).first (pB z t).receiver (pB z t).XH (pB z t).y7 (pB z t).fd (pB z t).o5 (pB z t).od with
 |none=>rw[hm] at u;cases u
 |some r=>
  obtain⟨A,B⟩:=r;rw[hm] at u;simp only[cM,E4,V5] at u;obtain⟨rfl,rfl,_⟩:=u;exact hm
theorem AH{δ:Type}{z:PS}{step:FZ->Option (Step FZ δ)}{fin:FZ->δ}
  (hs:∀s s',s=pB z (lA s)->s.XH≠ []->cW 0 s=some (none,s')->step (lA s)=some (.next (lA s'))) (he:∀s,s.XH=[]->step (lA s)=some (.done (fin (lA s)))):
  ∀{s s' n},A7 s s' n->s=pB z (lA s)->∀f,n<f->loop step f (lA s)=some (fin (lA s'))/\s'=pB z (lA s'):=by
 intro s s' n t
 induction t with
 |nil h=>
  intro u f B;obtain⟨f,rfl⟩:∃g,f=g+1:=⟨f - 1,by omega⟩;exact⟨Go.YA.ZX (he _ h),u⟩
 |cons h A t C=>
  intro u f B;obtain⟨f,rfl⟩:∃g,f=g+1:=⟨f - 1,by omega⟩;rw[Go.YA.m5 (hs _ _ u h A)];exact C (zC u A).1 f (by omega)
theorem Bz{z s s':PS}{n:Nat}(t:A7 s s' n):s=pB z (lA s)->s'=pB z (lA s'):=by
 induction t with
 |nil h=>exact id
 |cons h A t B=>exact fun u=>B (zC u A).1
theorem Xp{δ:Type}{z:PS}{step:Int×FZ->Option (Step (Int×FZ) δ)}{fin:Nat->PS->δ}
  (hs:∀(tk:Nat) (s s' s1:PS) (n:Nat),tk<=3->s=pB z (lA s)->A7 s s' n->n<=200->s'.safe≠z.YH->fU s'=some (none,s1)->step ((tk:Int),lA s)=some (.next (((tk+1:Nat):Int),lA s1)))
  (he:∀(tk:Nat) (s s':PS) (n:Nat) (v':Nm),Inv v' now snaps s'->tk<=3->s=pB z (lA s)->A7 s s' n->n<=200->s'.safe=z.YH->step ((tk:Int),lA s)=some (.done (fin tk s')))
  (h:Inv v now snaps z) (hq:v.q+200<=100000) (hx:v.x+200<=100000):
  ∃tk v' s',tk<=3/\Inv v' now snaps s'/\v'.h=v.h/\s'.safe=v.h/\loop step fL ((0:Int),lA z)=some (fin tk s'):=by
 have ad:=h.enum;have hw:=UB z.XH;have X8:=h.M0;obtain⟨M,s1,N,C,d2,D,d4,A,d6,d7⟩:=Xn 128 h (by omega) (by omega) (by omega);have z0:z=pB z (lA z):=rfl;have T:=Bz C z0;by_cases K:s1.safe=z.YH
 ·exact⟨0,M,s1,by omega,D,A.h,by omega,Go.YA.ZX (f:=1125899906842623) (he 0 z s1 N M D (by omega) z0 C (by omega) K)⟩
 ·obtain⟨u,O,s2,P,Q,E,e3,F,e5,G,e7,e8,e9,aa,ae⟩:=Xo D d4 (by omega) (by omega);have B:=(Ou T Q).1;have U:=Bz E B;have g1:=A.h;have V:=A.fb;have X:=A.ob;have g4:=G.h;have g5:=G.fb;have g6:=G.ob;have p1:loop step fL ((0:Int),lA z)=loop step 1125899906842623 (((0+1:Nat):Int),lA u):=Go.YA.m5 (f:=1125899906842623) (hs 0 z s1 u N (by omega) z0 C (by omega) K Q);by_cases L:s2.safe=z.YH
  ·exact⟨1,O,s2,by omega,F,by omega,by omega,p1.trans (Go.YA.ZX (f:=1125899906842622) (he 1 u s2 P O F (by omega) B E (by omega) L))⟩
  ·obtain⟨H,R,s3,n3,S,f2,f3,I,f5,f6,f7,f8,f9,ab,ac⟩:=Xo F e5 (by omega) (by omega);have y2:=(Ou U S).1;have g7:=f6.h;have kd:=FY I ab (by rw[ac (by rw[e9,g5,g6,V,X]) aa];omega);have p2:loop step 1125899906842623 (((0+1:Nat):Int),lA u)=loop step 1125899906842622 (((1+1:Nat):Int),lA H):=Go.YA.m5 (f:=1125899906842622) (hs 1 u s2 H P (by omega) B E (by omega) L S);exact⟨2,R,s3,by omega,I,by omega,by omega,p1.trans (p2.trans (Go.YA.ZX (f:=1125899906842621) (he 2 H s3 n3 R I (by omega) y2 f2 (by omega) (by omega))))⟩
theorem Xq{γ:Type}{z:PS}{step:FZ->Option (Step FZ (Ex FZ γ))}{k:FZ->Option γ}
  (hs:∀s s',s=pB z (lA s)->s.XH≠ []->cW 0 s=some (none,s')->step (lA s)=some (.next (lA s'))) (he:∀s,s.XH=[]->step (lA s)=some (.done (.XT (lA s))))
  {s s':PS} {n:Nat} (t:A7 s s' n) (hz:s=pB z (lA s)) (hn:n<=200):lp step (lA s) k=k (lA s'):=by
 unfold lp;rw[(AH (fin:=Ex.XT) hs he t hz fL (by unfold fL;omega)).1]
theorem GA{γ:Type}{z:PS}{step:Int×FZ->Option (Step (Int×FZ) (Ex Unit γ))}{fin:Nat->PS->γ}{k:Unit->Option γ}(G:Nat->γ)
  (hs:∀(tk:Nat) (s s' s1:PS) (n:Nat),tk<=3->s=pB z (lA s)->A7 s s' n->n<=200->s'.safe≠z.YH->fU s'=some (none,s1)->step ((tk:Int),lA s)=some (.next (((tk+1:Nat):Int),lA s1)))
  (he:∀(tk:Nat) (s s':PS) (n:Nat) (v':Nm),Inv v' now snaps s'->tk<=3->s=pB z (lA s)->A7 s s' n->n<=200->s'.safe=z.YH->step ((tk:Int),lA s)=some (.done (.ret (fin tk s'))))
  (h:Inv v now snaps z) (hq:v.q+200<=100000) (hx:v.x+200<=100000)
  (hG:∀(tk:Nat) (v':Nm) (s':PS),Inv v' now snaps s'->v'.h=v.h->s'.safe=v.h->fin tk s'=G tk):∃tk:Nat,tk<=3/\lp step ((0:Int),lA z) k=some (G tk):=by
 obtain⟨tk,v',s',u,A,B,C,D⟩:=Xp (fin:=fun tk s'=>Ex.ret (fin tk s')) hs he h hq hx;refine⟨tk,u,?_⟩;unfold lp;rw[D,<-hG tk v' s' A B C]
theorem GB{v now snaps s ds rs v2 y0 YD s2}(t:ff v now snaps s ds rs v2 y0 YD s2):v2.q<=v.q+ds.length/\v2.x<=v.x+ds.length:=by
 induction t with
 |nil h=>simp
 |cons h u z A g t B=>
  have:=g.q;have:=g.x;simp only[H6];omega
theorem AI{a0:Int}{ds:List lS}(h:a0<1\/32<a0):fQ a0 ds=some ((0,aQ,0,0,0,[]),0,some 1):=by
 have z:(bif (cm .lss a0 (1:Int)) then some true else some (cm .gtr a0 (32:Int)))=some true:=by
  rw[cl,cg];by_cases u:a0<1
  ·rw[D5 u];rfl
  ·rw[n9 u,D5 (by omega)];rfl
 unfold fQ iT;rw[z];rfl
theorem Xr{n:Nat}(h0:1<=n)(h1:n<=32){ds:List lS}(hl:300<ds.length):fQ (n:Int) ds=some ((0,aQ,0,0,0,[]),0,some 2):=by
 have h:cm .lss (n:Int) (1:Int)=false:=by rw[cl];exact n9 (by omega)
 have u:cm .gtr (n:Int) (32:Int)=false:=by rw[cg];exact n9 (by omega)
 have z:cm .gtr (ds.length:Int) (300:Int)=true:=by rw[cg];exact D5 (by omega)
 unfold fQ iT;rw[h,u,z];rfl
theorem GC{n:Nat}(h0:1<=n)(h1:n<=32){ds:List lS}(hl:ds.length<=300){s0:PS}(ZM:iN (n:Int)=some (some (XU s0),none)){rs v2 y0 YD s2}(t:ff ⟨n,0,1,1,0,0,0⟩ (List.replicate n aQ) [List.replicate n aQ] s0 ds rs v2 y0 YD s2)(h:Inv v2 y0 YD s2):
  ∃tk:Nat,tk<=3/\fQ (n:Int) ds=some ((0,aQ,(v2.h:Int),(v2.h:Int),(v2.h:Int),YD.getD v2.h []),(tk:Int),none):=by
 have L:=RN h0 h1 hl ZM t;obtain⟨gq,gx⟩:=GB t;simp only at gq gx;have o6:=h.F9;have L6:=h.enum;unfold fQ;rw[L,cM];simp only[vF,p7,pF];refine GA (z:=s2) (fin:=fun tk u=>((0,aQ,(v2.h:Int),u.safe,u.YL,YD.getD u.YL.toNat []),(tk:Int),none)) (fun tk=>((0,aQ,(v2.h:Int),(v2.h:Int),(v2.h:Int),YD.getD v2.h []),(tk:Int),none)) ?_ ?_ h (by omega) (by omega) ?_
 ·intro tk s u s1 n T C D F G U;obtain⟨_,t1,t2,t3,t4,t5,t6,t7,t8,t9⟩:=Ou (Bz D C) U;refine(Xq (z:=s2) ?_ ?_ D C F).trans ?_
  ·intro a V H A I;have c:cm .gtr (a.XH.length:Int) (0:Int)=true:=(by rw[cg];exact D5 (by have:=sb.2 A;omega));have e:=(zC H I).2;simp only[lA,XU,c,YX,e,cM,p7,pF]
  ·intro a A;have c:cm .gtr (a.XH.length:Int) (0:Int)=false:=(by rw[A];rfl);simp only[lA,c,pF]
  ·have E:cm .eql u.safe s2.YH=false:=(by rw[ce];exact n9 G);have M:cm .eql (tk:Int) (200:Int)=false:=(by rw[ce];exact n9 (by omega));have N:ar .add .i64 (tk:Int) 1=((tk+1:Nat):Int):=C2 (by omega);simp only[lA,XU,E,M,pF,cM,t9,p7,N,t1,t2,t3,t4,t5,t6,t7,t8]
 ·intro tk s u n K B T C D F G;refine(Xq (z:=s2) ?_ ?_ D C F).trans ?_
  ·intro a V H A I;have c:cm .gtr (a.XH.length:Int) (0:Int)=true:=(by rw[cg];exact D5 (by have:=sb.2 A;omega));have e:=(zC H I).2;simp only[lA,XU,c,YX,e,cM,p7,pF]
  ·intro a A;have c:cm .gtr (a.XH.length:Int) (0:Int)=false:=(by rw[A];rfl);simp only[lA,c,pF]
  ·have E:cm .eql u.safe s2.YH=true:=(by rw[ce];exact D5 G);have O:=LG (Bz D C) B ((0:Int),aQ,(0:Int),(0:Int),(0:Int),([]:(List aR)));have P:=B.R5;have Q:K.h=v2.h:=(by have:=B.hs;have:=h.hs;omega);simp only[lA,XU,E,YX,cM];rw[O];simp only[cM,P,A5,Q]
 ·intro tk K u B hh X;have h1:=B.safe;have h2:=B.kh;have R:=B.R5;have S:K.k=v2.h:=by omega
  simp only[X,R,S,A5]
theorem Xs{δ:Type}{step:Int×List aR×List (List aR)->Option (Step (Int×List aR×List (List aR)) δ)}{l:List lS}{fin:List aR->List (List aR)->δ}
  (hs:∀(i:Nat) (d:lS) (now U2:List aR) (snaps l6:List (List aR)) (qF:Int) (j1:aR),l[i]? =some d->i<=1000->iU now snaps d=some (qF,j1,U2,l6)->step ((i:Int),now,snaps)=some (.next (((i+1:Nat):Int),U2,l6)))
  (he:∀now snaps,step ((l.length:Int),now,snaps)=some (.done (fin now snaps))) (hl:l.length<=1000):
  ∀{v now snaps s ds rs v2 y0 YD s2},ff v now snaps s ds rs v2 y0 YD s2->∀(pre:List lS) (f:Nat),l=pre++ds->ds.length<f->loop step f ((pre.length:Int),now,snaps)=some (fin y0 YD):=by
 intro v now snaps s ds rs v2 y0 YD s2 t
 induction t with
 |nil h=>
  intro pre f u z;obtain⟨f,rfl⟩:∃g,f=g+1:=⟨f - 1,by simp at z;omega⟩;have:pre=l:=by simpa using u.symm
  rw[this,Go.YA.ZX (he _ _)]
 |cons h B E F g t C=>
  rename_i d ds rs qF j1;intro pre f u z;simp only[H6] at z;obtain⟨f,rfl⟩:∃g,f=g+1:=⟨f - 1,by omega⟩;have D:l.length=pre.length+ds.length+1:=by rw[u];simp;omega
  rw[Go.YA.m5 (hs pre.length d _ _ _ _ qF j1 (by rw[u];simp) (by omega) B)];have A:=C (pre++[d]) f (by rw[u];simp) (by omega);simp only[sM,aCw] at A ⊢;exact A
end Go.YO
namespace Go.YO
open Go Go.Sw Go.Mo Go.Pl
theorem Qb(a0:Int)(ds:List lS)(hd:∀d∈ds,wQ d):iD a0 ds=some true:=by
 by_cases N:a0<1\/32<a0
 ·have O:(bif (cm .lss a0 (1:Int)) then some true else some (cm .gtr a0 (32:Int)))=some true:=by
   rw[cl,cg];by_cases G:a0<1
   ·rw[D5 G];rfl
   ·rw[n9 G,D5 (by omega)];rfl
  unfold iD;rw[AI N,cM,O];rfl
 ·obtain⟨n,rfl⟩:∃n:Nat,a0=(n:Int):=⟨a0.toNat,by omega⟩;have B:1<=n:=by omega
  have A:n<=32:=by omega
  have H:cm .lss (n:Int) (1:Int)=false:=by rw[cl];exact n9 (by omega)
  have I:cm .gtr (n:Int) (32:Int)=false:=by rw[cg];exact n9 (by omega)
  by_cases P:300<ds.length
  ·have C:cm .gtr (ds.length:Int) (300:Int)=true:=(by rw[cg];exact D5 (by omega));unfold iD;rw[Xr B A P,cM,H,I,C];rfl
  ·have C:cm .gtr (ds.length:Int) (300:Int)=false:=(by rw[cg];exact n9 (by omega));obtain⟨s0,rs,u,y0,YD,s2,a1,a2,L,a4,z⟩:=AD B A (by omega:ds.length<=300) hd;obtain⟨M,ab,y6⟩:=GC B A (by omega) a1 L z;have Q:cm .neq (0:Int) (0:Int)=false:=rfl;have m7:=z.hs;have o6:=z.F9;have O9:=z.n1;unfold iD;rw[y6,cM,H,I,C];simp only[pF,cM,jp,Q,p7];rw[AE A,cM];simp only[vF];unfold lp
   rw[show (((0:Int),List.replicate n aQ,[List.replicate n aQ]):Int×List aR×List (List aR))=(((([]:List lS).length:Nat):Int),List.replicate n aQ,[List.replicate n aQ]) from rfl,
    Xs (l:=ds) (fin:=fun E F=>Ex.XT (E,F)) ?_ ?_ (by omega) L [] fL rfl (by unfold fL;omega)]
   ·have R:fK (y0,YD)=some (u.h:Int):=by
     unfold fK;rw[T5 (by simp only;omega)];simp only;congr 1;omega
    have S:∀x:Int,cm .eql x x=true:=fun x=>by rw[ce];simp
    have T:cm .lss (M:Int) (0:Int)=false:=(by rw[cl];exact n9 (by omega));have U:cm .gtr (M:Int) (3:Int)=false:=(by rw[cg];exact n9 (by omega));have V:Sw.idx YD (u.h:Int)=some (YD.getD u.h []):=sG (by rw[V7,J0 (by omega)];rfl);have X:YD.getD u.h []∈YD:=by
     rw[V7,J0 (by omega)];exact il _
    have e9:=Go.ZZ.X3 (YD.getD u.h []) (by have:=z.ep.len _ X;omega);simp only[T,U,R,S,V,e9,pF,YX,cM,fw,lu]
   ·intro i d E U2 F l6 qF j1 K aa hc;have YI:i<ds.length:=(aCb.1 K).1;have D:cm .lss (i:Int) (ds.length:Int)=true:=(by rw[cl];exact D5 (by omega));simp only[D,YX,sG K,cM,hc];rw[C2 (by omega)]
   ·intro E F;have D:cm .lss (ds.length:Int) (ds.length:Int)=false:=(by rw[cl];exact n9 (by omega));simp only[D,pF]
def SP(i:Nat)(x:Option (Step (Int×List lS) (Ex (List lS) (List lS)))):Prop:=∃l':List lS,x=some (.next (((i+1:Nat):Int),l'))/\l'.length=i+1/\∀d∈l',wQ d
theorem RP{i:Nat}{c:Bool}{a b:Option (Step (Int×List lS) (Ex (List lS) (List lS)))}(ha:SP i a)(hb:SP i b):SP i (bif c then a else b):=by cases c<;>assumption
theorem SP.jp{i:Nat}{β:Type}{k:β->Option (Step (Int×List lS) (Ex (List lS) (List lS)))}{body:(β->Option (Step (Int×List lS) (Ex (List lS) (List lS))))->Option (Step (Int×List lS) (Ex (List lS) (List lS)))}(hk:∀x,SP i (k x))(h:∀k',(∀x,SP i (k' x))->SP i (body k')):SP i (Sw.jp k body):=h k hk
theorem OX{i:Nat}{l:List lS}{d:lS}(hi:i<=1000)(hl:l.length=i)(h:∀d∈l,wQ d)(hd:wQ d):SP i ((Sw.app l [d]).bind fun v=>some (.next ((ar .add .i64 (i:Int) 1),v))):=by
 rw[WV _ _ (by simp[hl];omega),cM,C2 (by omega)]
 exact⟨_,rfl,by simp[hl],fun x u=>by
  rcases S9.1 u with u | u
  ·exact h x u
  ·rw[aB9.1 u];exact hd⟩
theorem SP.block{i:Nat}{raw:List Int}(hr:IW raw){p:Nat}(hp:p<=100000){k:aR->Option (Step (Int×List lS) (Ex (List lS) (List lS)))}(hk:∀b,l4 b->SP i (k b)):SP i ((kU raw (p:Int)).bind k):=by
 obtain⟨b,h,u⟩:=Th hr p hp;rw[h,cM];exact hk b u
theorem Ub{v:Nat}(h:v<=100000000000):I9 (v:Int):=by unfold I9;omega
theorem GD{many:Nat}(hm:many<=300){step:Int×List lS->Option (Step (Int×List lS) (Ex (List lS) (List lS)))}
  (hs:∀i l,i<many->l.length=i->(∀d∈l,wQ d)->SP i (step ((i:Int),l))) (he:∀l,step ((many:Int),l)=some (.done (.XT l))):
  ∃ds,lp step ((0:Int),([]:List lS)) (fun x=>some x)=some ds/\ds.length=many/\∀d∈ds,wQ d:=by
 obtain⟨b,⟨z,A⟩,B⟩:=PY (γ:=List lS) (step:=step) (k:=fun x=>some x) (fun i (l:List lS)=>((i:Int),l)) (fun l=>l) many (fun i l=>l.length=i/\∀d∈l,wQ d) [] (by unfold fL;omega) ⟨rfl,by simp⟩
  (fun i l u h=>hs i l u h.1 h.2) (fun l _=>he l)
 exact⟨b,B,z,A⟩
theorem UD{k a b:Int}{x:aR}(h1:I9 a)(h2:I9 b)(h3:l4 x):wQ (k,a,b,x):=⟨h1,h2,h3⟩
theorem Qc{raw:List Int}(hr:IW raw)(at_ many n:Nat)(ha:at_<=1000)(hm:many<=300)(hn:1<=n)(tg:n<=1000):∃ds,lP raw (at_:Int) (many:Int) (n:Int)=some ds/\ds.length=many/\∀d∈ds,wQ d:=by
 unfold lP;refine GD hm (fun i l U K L=>?_) (fun l=>?_)
 ·rw[cl,D5 (by omega),YX,p5 (by omega),show (at_:Int)+(i:Int)=((at_+i:Nat):Int) by omega];obtain⟨v,P,V⟩:=Zb hr (at_+i) (by omega);rw[P,cM,IU (by omega),cM];have B:ar .quo .i64 (v:Int) 40=((v / 40:Nat):Int):=IT (b:=40) (by omega);have C:ar .quo .i64 (v:Int) 7=((v / 7:Nat):Int):=IT (b:=7) (by omega);have D:ar .rem .i64 ((v / 40:Nat):Int) (n:Int)=((v / 40 % n:Nat):Int):=BY;have E:ar .rem .i64 ((v / 7:Nat):Int) 90=((v / 7 % 90:Nat):Int):=BY (b:=90);have F:ar .rem .i64 ((v / 40:Nat):Int) 7=((v / 40 % 7:Nat):Int):=BY (b:=7);have Q:v / 40 % n<=1000:=by have:=pz (v / 40) (show n>0 by omega);omega
  have R:v / 7 % 90<=1000:=by omega
  have S:v / 40 % 7<=1000:=by omega
  rw[B,C,D,E,F];have u:I9 ((v / 40 % n:Nat):Int):=Ub (by omega);have G:I9 ((v / 7 % 90:Nat):Int):=Ub (by omega);have z:I9 ((v / 40 % 7:Nat):Int):=Ub (by omega);have T:ar .add .i64 ((at_+i:Nat):Int) 0=((at_+i:Nat):Int):=by rw[p5 (by omega)];omega
  have H:ar .add .i64 (at_:Int) (ar .mul .i64 3 (i:Int))=((at_+3*i:Nat):Int):=by
   rw[show ar .mul .i64 3 (i:Int)=((3*i:Nat):Int) from Ig (a:=3) (by omega),p5 (by omega)];omega
  have I:ar .add .i64 (at_:Int) (ar .mul .i64 2 (i:Int))=((at_+2*i:Nat):Int):=by
   rw[show ar .mul .i64 2 (i:Int)=((2*i:Nat):Int) from Ig (a:=2) (by omega),p5 (by omega)];omega
  rw[H,I];have h:∀(k a:Int) (b:aR),I9 a->l4 b->SP i ((Sw.app l [(k,a,((v / 7 % 90:Nat):Int),b)]).bind fun v=>some (.next ((ar .add .i64 (i:Int) 1),v))):=fun k a b M N=>OX (by omega) K L (UD M G N)
  repeat' (first
   | (with_reducible exact h _ _ _ u H8)
   | (with_reducible exact h _ _ _ z H8)
   | (with_reducible exact h _ _ _ u A)
   | (with_reducible exact h _ _ _ z A)
   | (with_reducible exact O _)
   | (with_reducible refine SP.block hr (by omega) fun b A=>?_)
   | (with_reducible refine SP.jp (fun x=>?_) (fun k O=>?_))
   | (with_reducible refine RP ?_ ?_))
 ·rw[cl,n9 (by omega)];rfl
theorem Xt{raw:List Int}(hr:IW raw){a1 a2 a3:Int}(h1:Go.Pl.I9 a1)(h2:Go.Pl.I9 a2)(h3:Go.Pl.I9 a3)(M:Nat)(hM0:0<M)(hM:M<=300):
  ∃(n:Nat) (p1 p2 p3:Int) (ds:List lS),1<=n/\n<=32/\lX a1 32=some p1/\ar .add .i64 (1:Int) p1=(n:Int)/\lX a2 1000=some p2/\lX a3 (M:Int)=some p3/\
   lP raw p2 p3 (n:Int)=some ds/\ds.length<=300/\∀d∈ds,wQ d:=by
 have G:=Mc (c:=a1) (n:=32) (by omega);have H:=Mc (c:=a2) (n:=1000) (by omega);have I:=Mc (c:=a3) (n:=(M:Int)) (by omega);obtain⟨h,B⟩:∃k:Nat,pick a1 32=k:=⟨(pick a1 32).toNat,by omega⟩;obtain⟨u,C⟩:∃k:Nat,pick a2 1000=k:=⟨(pick a2 1000).toNat,by omega⟩;obtain⟨z,D⟩:∃k:Nat,pick a3 (M:Int)=k:=⟨(pick a3 (M:Int)).toNat,by omega⟩;have A:ar .add .i64 (1:Int) (h:Int)=((h+1:Nat):Int):=by rw[p5 (by omega)];omega
 obtain⟨ds,E,K,F⟩:=Qc hr u z (h+1) (by omega) (by omega) (by omega) (by omega);exact⟨h+1,h,u,z,ds,by omega,by omega,by rw[Mb h1 (by omega),B],A,by rw[Mb h2 (by omega),C],by rw[Mb h3 (by omega),D],E,by omega,F⟩
theorem fc{a0:List Int}{a1 a2 a3:Int}(hw:∀x∈a0,Go.Pl.I9 x)(h1:Go.Pl.I9 a1)(h2:Go.Pl.I9 a2)(h3:Go.Pl.I9 a3):oB a0 a1 a2 a3=some true:=by
 unfold oB;by_cases h:(256:Int)<(a0.length:Int)
 ·have e:cm .gtr (a0.length:Int) (256:Int)=true:=by rw[cg];exact D5 h
  rw[e];rfl
 ·have e:cm .gtr (a0.length:Int) (256:Int)=false:=by rw[cg];exact n9 h
  obtain⟨n,p1,E,F,G,H,I,u,z,A,B,C,K,D⟩:=Xt (raw:=a0) ⟨hw,by omega⟩ h1 h2 h3 120 (by omega) (by omega);rw[e,pF,u,cM,A,cM,show (120:Int)=((120:Nat):Int) from rfl,B,cM,z,C,cM,Qb _ _ D];rfl
end Go.YO
