/- Plain laws about these plain functions alone. Conditions: none. -/
import Derived.Test.YteckohdbfkhmdabGreatDoorMCMirrorSays
set_option linter.unusedVariables false
set_option linter.unusedSimpArgs false
namespace Go.PlFr
open Go.Pl
open Go Go.Sw Go.Mo
abbrev eR:=Int×List Int×List aQ
def vQ(x:Int):Bool:=decide (x<0) || decide (x>2147483647)
def dH(f:eR):Int:=if f.1<0\/f.1>15 then 1 else if f.2.1.length>12\/f.2.2.length>32 then 2 else if f.2.1.any vQ then 1 else 0
theorem Tx{D:Type}(r:Nat->D)(l:List Int):∀i,rT (fun (i:Nat) (x:Int) (_:Unit)=>(if vQ x then Step.done (Ex.ret (r i)) else .next ():Step Unit (Ex Unit D))) (fun _=> .brk ()) i () l=match l.findIdx? vQ with | some j=> .ret (r (i+j)) | none=> .brk ():=by
 induction l with
 |nil=>intro i;simp[rT]
 |cons x l u=>
  intro i;simp only[rT,List.findIdx?_cons];by_cases h:vQ x=true
  ·simp[h]
  ·simp only[h,aA4,u,aAw];cases l.findIdx? vQ with
   |none=>rfl
   |some j=>simp[aDs,aCz 1]
theorem Ty(l:List Int):l.any vQ=(l.findIdx? vQ).isSome:=by
 rw[List.findIdx?_isSome]
theorem CC(x:Int):oO x=some (vQ x):=by
 unfold oO vQ;by_cases h:x<0
 ·have:cm .lss x 0=true:=by simp[cm,h]
  simp[this,h]
 ·have:cm .lss x 0=false:=by simp[cm];omega
  simp[this,h,cm]
theorem Tz(l:List Int)(h:l.length<=1000000):cH l=some (l.any vQ):=by
 unfold cH dJ;rw[show (0:Int)=((0:Nat):Int) from rfl,Al (l:=l) (fun i (_:Unit)=>(i:Int)) () (fun i x _=>if vQ x then .done (.ret (i:Int)) else .next ()) (fun _=> .brk ()) (by unfold fI;omega)]
 ·rw[Tx (fun i=>(i:Int)),Ty];cases l.findIdx? vQ<;>simp[out,cm]
 ·rintro u x z acc rfl;simp only[oC,aAe,lY,cM,CC,FR (n:=u.length) (m:=1000000) (by simp at h;omega) (by omega)];cases vQ x<;>simp[Ho]
 ·intro _;simp[dC]
theorem Ej(f:eR):pE f=some (if dH f=0 then none else some (dH f)):=by
 obtain⟨s,h,u⟩:=f;unfold pE dH;by_cases z:s<0
 ·have:cm .lss s 0=true:=by simp[cm,z]
  simp[this,z]
 have A:cm .lss s 0=false:=by simp[cm];omega
 by_cases C:s>15
 ·have:cm .gtr s 15=true:=by simp[cm];omega
  simp[A,this,C]
 have D:cm .gtr s 15=false:=by simp[cm];omega
 have E:¬(s<0\/s>15):=by omega
 simp only[A,D,pF,cM,E,aA4];by_cases F:h.length>12
 ·have:cm .gtr (h.length:Int) 12=true:=by simp[cm];omega
  simp[this,F]
 have B:cm .gtr (h.length:Int) 12=false:=by simp[cm];omega
 by_cases G:u.length>32
 ·have:cm .gtr (u.length:Int) 32=true:=by simp[cm];omega
  simp[B,this,G]
 have H:cm .gtr (u.length:Int) 32=false:=by simp[cm];omega
 have I:¬(h.length>12\/u.length>32):=by omega
 simp only[B,H,pF,cM,I,aA4,Tz h (by omega)];cases h.any vQ<;>simp
def vf:Nat->Nat->List Int
 | 0,n=>[(n:Int)]
 |k+1,n=>if n<128 then [(n:Int)] else ((128+n % 128:Nat):Int)::vf k (n / 128)
theorem Mb:∀k n,n<128 ^ (k+1)->Bytes (vf k n)/\(vf k n).length<=k+1
 | 0,n,h=>by
  simp at h;exact⟨fun x u=>by simp[vf] at u;omega,by simp[vf]⟩
 |k+1,n,h=>by
  unfold vf;split
  ·exact⟨fun x u=>by simp at u;omega,by simp⟩
  ·have z:n / 128<128 ^ (k+1):=by rw[aEf] at h;omega
   obtain⟨A,B⟩:=Mb k (n / 128) z;refine⟨fun x u=>?_,by simp;omega⟩;rcases aAo.1 u with rfl | u
   ·have:=aCv n (by decide:0<128);omega
   ·exact A x u
theorem Pm{γ:Type}{step:Int×List Int->Option (Step (Int×List Int) (Ex (Int×List Int) γ))}
  (h1:∀(n:Nat) acc,128<=n->n<34359738368->acc.length<=1000000->step ((n:Int),acc)=some (.next (((n / 128:Nat):Int),acc++[((128+n % 128:Nat):Int)])))
  (h2:∀(n:Nat) acc,n<128->step ((n:Int),acc)=some (.done (.brk ((n:Int),acc)))):
  ∀(k n:Nat) (acc:List Int) (f:Nat),n<128 ^ (k+1)->n<34359738368->acc.length+k<=1000000->k<f->∃(m:Nat) (acc':List Int),loop step f ((n:Int),acc)=some (.brk ((m:Int),acc'))/\m<128/\acc'++[(m:Int)]=acc++vf k n
 | 0,n,acc,f,h,_,_,C=>by
  obtain⟨f,rfl⟩:∃f',f=f'+1:=⟨f - 1,by omega⟩
  simp at h;exact⟨n,acc,by simp[loop,h2 n acc h],h,rfl⟩
 |k+1,n,acc,f,h,D,E,C=>by
  obtain⟨f,rfl⟩:∃f',f=f'+1:=⟨f - 1,by omega⟩
  by_cases u:n<128
  ·exact⟨n,acc,by simp[loop,h2 n acc u],u,by simp[vf,u]⟩
  ·obtain⟨m,acc',z,A,B⟩:=Pm h1 h2 k (n / 128) (acc++[((128+n % 128:Nat):Int)]) f (by rw[aEf] at h;omega) (by omega) (by simp;omega) (by omega);refine⟨m,acc',?_,A,?_⟩
   ·simp only[loop,h1 n acc (by omega) D (by omega)];exact z
   ·rw[B];simp[vf,u]
theorem SE:∀a:Fin 256,ar .or .u8 ((a.1:Nat):Int) 128=((128+a.1 % 128:Nat):Int):=by decide+kernel
theorem Ck(n:Nat):IntKind.wrap .u8 (n:Int)=((n % 256:Nat):Int):=by
 simp[IntKind.wrap,IntKind.signed,IntKind.bits]
theorem SF(n:Nat):sh .shr .i64 (n:Int) 7=((n / 128:Nat):Int):=by
 show Int.fdiv _ _=_;have:(2:Int) ^ min (7:Int).toNat (IntKind.bits .i64)=128:=by decide
 rw[this,aBj _ (by omega)];omega
theorem GS:∀s:Fin 16,∀n:Fin 13,ar .or .u8 (sh .shl .u8 (IntKind.wrap .u8 (s.1:Int)) 4) (IntKind.wrap .u8 (n.1:Int))=IntKind.wrap .u8 (ar .add .i64 (ar .mul .i64 16 (s.1:Int)) (n.1:Int)):=by decide+kernel
def Gu(f:eR):List Int:=[IntKind.wrap .u8 (ar .add .i64 (ar .mul .i64 16 f.1) (f.2.1.length:Int)),IntKind.wrap .u8 (f.2.2.length:Int)]
def vs(ns:List Int):List Int:=ns.flatMap fun n=>vf 4 n.toNat
def body(f:eR):List Int:=Gu f++vs f.2.1++f.2.2.flatten
def sum4(v:Nat):List Int:=[((v / 16777216:Nat):Int),((v / 65536 % 256:Nat):Int),((v / 256 % 256:Nat):Int),((v % 256:Nat):Int)]
def bC(f:eR):List Int:=body f++sum4 (4294967295 - zC (nat (body f)))
theorem lp_inv{α A B β γ:Type}{step:α->Option (Step α (Ex β γ))}{l:List A}{k:β->Option γ}(st:Nat->B->α)(I:Nat->B->Prop)(acc0:B)(g:Nat->A->B->B)(fin:B->β)(hf:l.length<fI)(h0:I 0 acc0)
  (hs:∀pre x rest acc,l=pre++x::rest->I pre.length acc->step (st pre.length acc)=some (.next (st (pre.length+1) (g pre.length x acc)))/\I (pre.length+1) (g pre.length x acc))
  (he:∀acc,I l.length acc->step (st l.length acc)=some (.done (.brk (fin acc)))):
  lp step (st 0 acc0) k=k (fin ((l.zipIdx).foldl (fun acc x=>g x.2 x.1 acc) acc0)):=by
 have C:∀(rest pre:List A) (acc:B) (f:Nat),l=pre++rest->I pre.length acc->rest.length<f->loop step f (st pre.length acc)=some (.brk (fin ((rest.zipIdx pre.length).foldl (fun acc x=>g x.2 x.1 acc) acc))):=by
  intro rest
  induction rest with
  |nil=>
   intro pre acc f u z hf;obtain⟨f,rfl⟩:∃f',f=f'+1:=⟨f - 1,by simp at hf;omega⟩
   have:=he acc (by rw[u,aBa];exact z);rw[u,aBa] at this;simp[loop,this]
  |cons x rest F=>
   intro pre acc f u z hf;obtain⟨f,rfl⟩:∃f',f=f'+1:=⟨f - 1,by simp at hf;omega⟩
   obtain⟨D,E⟩:=hs pre x rest acc u z;simp only[loop,D];have:=F (pre++[x]) (g pre.length x acc) f (by rw[u];simp) (by simpa using E) (by simp at hf;omega);simpa using this
 have h:=C l [] acc0 fI rfl h0 hf;unfold lp;simp only[aA9] at h;rw[h]
theorem foldl_zipIdx{A:Type}(w:A->List Int):∀(l:List A) (i:Nat) (acc:List Int),(l.zipIdx i).foldl (fun acc x=>acc++w x.1) acc=acc++l.flatMap w
 | [],_,acc=>by simp
 |x::l,i,acc=>by simp[foldl_zipIdx w l]
end Go.PlFr
namespace Go.PlFr
open Go.Pl
open Go Go.Sw Go.Mo
theorem app_small{α:Type}(xs ys:List α)(h:xs.length+ys.length<=4294967296):Sw.app xs ys=some (xs++ys):=by unfold Sw.app;rw[aAn h]
end Go.PlFr
namespace Go.PlFr
open Go.Pl
open Go Go.Sw Go.Mo
theorem LA{γ:Type}{step:Int×List Int->Option (Step (Int×List Int) (Ex (Int×List Int) γ))}{k:Int×List Int->Option γ}
  (h1:∀(n:Nat) acc,128<=n->n<34359738368->acc.length<=1000000->step ((n:Int),acc)=some (.next (((n / 128:Nat):Int),acc++[((128+n % 128:Nat):Int)])))
  (h2:∀(n:Nat) acc,n<128->step ((n:Int),acc)=some (.done (.brk ((n:Int),acc)))) (n:Nat) (acc:List Int) (hn:n<34359738368) (ha:acc.length<=900000):
  ∃(m:Nat) (acc':List Int),lp step ((n:Int),acc) k=k ((m:Int),acc')/\m<128/\acc'++[(m:Int)]=acc++vf 4 n:=by
 obtain⟨m,acc',h,u,z⟩:=Pm h1 h2 4 n acc fI (by omega) hn (by omega) (by unfold fI;omega);exact⟨m,acc',by unfold lp;rw[h],u,z⟩
structure Good (f:eR):Prop where
 s0:0<=f.1
 s1:f.1<=15
 ns:f.2.1.length<=12
 bs:f.2.2.length<=32
 num:∀n∈f.2.1,0<=n/\n<=2147483647
 blk:∀b∈f.2.2,b.length=8/\Bytes b
theorem rC{f:eR}(h:dH f=0)(hb:∀b∈f.2.2,b.length=8/\Bytes b):Good f:=by
 unfold dH at h;split at h
 ·cases h
 ·split at h
  ·cases h
  ·split at h
   ·cases h
   ·rename_i B C u;refine⟨by omega,by omega,by omega,by omega,fun n z=>?_,hb⟩;have:¬vQ n=true:=fun A=>u (aDe.2 ⟨n,z,A⟩);simp[vQ] at this;omega
theorem Ua{ns:List Int}(h:∀n∈ns,0<=n/\n<=2147483647):Bytes (vs ns)/\(vs ns).length<=5*ns.length:=by
 induction ns with
 |nil=>exact⟨fun x u=>by simp[vs] at u,by simp[vs]⟩
 |cons n ns C=>
  obtain⟨z,A⟩:=C (fun x u=>h x (by simp[u]));have D:=h n (by simp);obtain⟨B,E⟩:=Mb 4 n.toNat (by omega);refine⟨fun x u=>?_,?_⟩
  ·simp only[vs,aEn,aA0] at u;rcases u with u | u
   ·exact B x u
   ·exact z x u
  ·simp only[vs,aEn,sM,aAq];unfold vs at A;omega
theorem flat_bytes{bs:List aQ}(h:∀b∈bs,b.length=8/\Bytes b):Bytes bs.flatten/\bs.flatten.length=8*bs.length:=by
 induction bs with
 |nil=>exact⟨fun x u=>by simp at u,rfl⟩
 |cons b bs D=>
  obtain⟨z,A⟩:=D (fun x u=>h x (by simp[u]));obtain⟨B,C⟩:=h b (by simp);refine⟨fun x u=>?_,by simp only[aC1,sM,A,B,aAq];omega⟩;simp only[aC1,aA0] at u;rcases u with u | u
  ·exact C x u
  ·exact z x u
theorem qH{f:eR}(h:Good f):Bytes (body f)/\(body f).length<=1000:=by
 obtain⟨z,B⟩:=Ua h.num;obtain⟨A,C⟩:=flat_bytes h.blk;have:=h.ns;have:=h.bs;refine⟨fun x u=>?_,by simp only[body,Gu,sM,aAq,aA9];omega⟩;simp only[body,aA0] at u;rcases u with (u | u) | u
 ·simp only[Gu,aAo,aCs,aEu] at u;rcases u with rfl | rfl
  ·have:=xN .u8 (ar .add .i64 (ar .mul .i64 16 f.1) (f.2.1.length:Int));unfold Db at this;simpa[IntKind.min,IntKind.max,IntKind.signed,IntKind.bits] using this
  ·have:=xN .u8 (f.2.2.length:Int);unfold Db at this;simpa[IntKind.min,IntKind.max,IntKind.signed,IntKind.bits] using this
 ·exact z x u
 ·exact A x u
theorem Dt{f:eR}(h:Good f)(he:dH f=0):lV f=some (bC f,none):=by
 obtain⟨s,u,A⟩:=f;have M:=h.s0;have N:=h.s1;have D:=h.ns;have E:=h.bs;have F:=h.num;have G:=h.blk;simp only at D E F G M N;obtain⟨aj,ak⟩:=Ua F;obtain⟨al,am⟩:=flat_bytes G;obtain⟨K,an⟩:=qH h;unfold lV;rw[Ej,aAn he];simp only[cM,aAa,pF];have O:ar .or .u8 (sh .shl .u8 (IntKind.wrap .u8 s) 4) (IntKind.wrap .u8 (u.length:Int))=IntKind.wrap .u8 (ar .add .i64 (ar .mul .i64 16 s) (u.length:Int)):=by
  have:=GS ⟨s.toNat,by omega⟩ ⟨u.length,by omega⟩;have e:((s.toNat:Nat):Int)=s:=by omega
  simpa[e] using this
 rw[O,show ((0:Int),[IntKind.wrap .u8 (ar .add .i64 (ar .mul .i64 16 s) (u.length:Int)),IntKind.wrap .u8 (A.length:Int)])=(((0:Nat):Int),Gu (s,u,A)) from rfl];rw[lp_inv (l:=u) (fun i (acc:List Int)=>((i:Int),acc)) (fun i acc=>acc.length<=2+5*i) (Gu (s,u,A)) (fun _ n acc=>acc++vf 4 n.toNat) (fun acc=>acc) (by unfold fI;omega) (by simp[Gu])]
 ·rw[foldl_zipIdx (fun n:Int=>vf 4 n.toNat)];rw[show ((0:Int),Gu (s,u,A)++u.flatMap (fun n=>vf 4 n.toNat))=(((0:Nat):Int),Gu (s,u,A)++vs u) from rfl];rw[lp_inv (l:=A) (fun i (acc:List Int)=>((i:Int),acc)) (fun i acc=>acc.length<=100+8*i) (Gu (s,u,A)++vs u) (fun _ z acc=>acc++z) (fun acc=>acc) (by unfold fI;omega) (by simp[Gu];omega)]
  ·rw[foldl_zipIdx (fun z:aQ=>z)];have P:Gu (s,u,A)++vs u++A.flatMap (fun z=>z)=body (s,u,A):=by simp[body,List.flatMap_id']
   rw[P,GR _ K (by omega)];simp only[cM];have ad:zC (nat (body (s,u,A)))<4294967296:=Gs _ _ (by decide) (Gt K);generalize hv:4294967295 - zC (nat (body (s,u,A)))=v;have ae:v<4294967296:=by omega
   have Q:sh .shr .u32 (v:Int) 24=((v / 16777216:Nat):Int):=by
    show Int.fdiv _ _=_;have:(2:Int) ^ min (24:Int).toNat (IntKind.bits .u32)=16777216:=by decide
    rw[this,aBj _ (by omega)];omega
   have R:sh .shr .u32 (v:Int) 16=((v / 65536:Nat):Int):=by
    show Int.fdiv _ _=_;have:(2:Int) ^ min (16:Int).toNat (IntKind.bits .u32)=65536:=by decide
    rw[this,aBj _ (by omega)];omega
   have S:sh .shr .u32 (v:Int) 8=((v / 256:Nat):Int):=by
    show Int.fdiv _ _=_;have:(2:Int) ^ min (8:Int).toNat (IntKind.bits .u32)=256:=by decide
    rw[this,aBj _ (by omega)];omega
   rw[Q,R,S,Ck,Ck,Ck,Ck];rw[app_small _ _ (by simp;omega)];simp only[cM,bC,hv,sum4];have T:v / 16777216 % 256=v / 16777216:=aA2 (by omega);simp[T]
  ·rintro C z ac acc rfl hI;obtain⟨hz,_⟩:=G z (by simp);simp only[oC,aAe,lY,cM];have af:C.length<=32:=by simp at E;omega
   rw[app_small _ _ (by omega),FR (n:=C.length) (m:=1000000) (by simp at E;omega) (by omega)];exact⟨rfl,by simp;omega⟩
  ·intro acc _;simp[dC]
 ·rintro C n ac acc rfl hI;have hn:=F n (by simp);obtain⟨m,rfl⟩:∃m:Nat,n=(m:Int):=⟨n.toNat,by omega⟩
  simp only[oC,aAe,lY,cM];have U:acc.length<=900000:=by simp at D;omega
  obtain⟨q,ab,H,h4,L⟩:=LA (γ:=Step (Int×List Int) (Ex (List Int) (List Int×Option Int))) (step:=fun (B:Int×(List Int))=>
    bif (cm .gtr B.1 (127:Int)) then
     (Sw.app B.2 ([(ar .or .u8 (IntKind.wrap .u8 B.1) (128:Int))]:(List Int))).bind fun X=>
      some (.next ((sh .shr .i64 B.1 (7:Int)),X))
    else
     some (.done (.brk (B.1,B.2))))
   (k:=fun (I:Int×(List Int))=>(Sw.app I.2 ([(IntKind.wrap .u8 I.1)]:(List Int))).bind fun aa=>some (.next ((ar .add .i64 (C.length:Int) (1:Int)),aa)))
   (by
    intro n acc V h2 H;have:cm .gtr (n:Int) 127=true:=by simp[cm];omega
    simp only[this,aAe];rw[Ck,SE ⟨n % 256,aCv _ (by decide)⟩,app_small _ _ (by simp;omega),SF];simp only[cM]
    rw[Nat.mod_mod_of_dvd _ (by decide:128 ∣ 256)])
   (by
    intro n acc V;have:cm .gtr (n:Int) 127=false:=by simp[cm];omega
    simp[this]) m acc (by omega) U
  have ah:=(Mb 4 m (by omega)).2;have ai:ab.length+1=acc.length+(vf 4 m).length:=by
   have:=congrArg List.length L;simpa using this
  rw[H];simp only[Ck];rw[app_small _ _ (by simp at D;simp;omega),aA2 (by omega:q<256),L,FR (n:=C.length) (m:=1000000) (by simp at D;omega) (by omega)];refine⟨by simp,by simp;omega⟩
 ·intro acc _;simp[dC]
theorem Xc{f:eR}(h:Good f):(bC f).length<=1000000:=by
 have:=(qH h).2;simp[bC,sum4];omega
end Go.PlFr
namespace Go.PlFr
open Go.Pl
open Go Go.Sw Go.Mo
theorem cl(m n:Int):cm .lss m n=decide (m<n):=rfl
theorem cg(m n:Int):cm .gtr m n=decide (m>n):=rfl
theorem cle(m n:Int):cm .leq m n=decide (m<=n):=rfl
theorem cge(m n:Int):cm .geq m n=decide (m>=n):=rfl
theorem ce(m n:Int):cm .eql m n=decide (m=n):=by show (m==n)=_;by_cases h:m=n<;>simp[h]
theorem cn(m n:Int):cm .neq m n=decide (m≠n):=by show (m != n)=_;by_cases h:m=n<;>simp[h]
theorem addI{m n:Int}(h: -9223372036854775808<=m+n/\m+n<=9223372036854775807):ar .add .i64 m n=m+n:=wrap_i64 h
theorem subI{m n:Int}(h: -9223372036854775808<=m - n/\m - n<=9223372036854775807):ar .sub .i64 m n=m - n:=wrap_i64 h
theorem nxt{n:Nat}(h:n<=4611686018427387904):ar .add .i64 (n:Int) 1=((n+1:Nat):Int):=by rw[addI (by omega)];push_cast;rfl
theorem Bytes.tail{x:Int}{l:List Int}(h:Bytes (x::l)):Bytes l:=fun y u=>h y (by simp[u])
theorem Bytes.head{x:Int}{l:List Int}(h:Bytes (x::l)):0<=x/\x<=255:=h x (by simp)
def Ub:List Int->Int×Bool×List Int
 | []=>(0,false,[])
 |b::r=>(b,true,r)
theorem Ri(l:List Int)(hl:l.length<=1000000):eJ l=some (Ub l):=by
 unfold eJ;cases l with
 |nil=>rfl
 |cons b r=>
  have:¬((b::r).length:Int)=0:=by simp;omega
  rw[ce];simp only[this,aA5,pF];have h:Sw.idx (b::r) 0=some b:=rfl;have u:Sw.sub (b::r) 1 ((b::r).length:Int)=some r:=by
   unfold Sw.sub;rw[aAn (by simp;omega)];simp
  rw[h,u];rfl
def vX:Nat->Nat->Nat->List Int->Int×Bool×List Int
 | 0,_,_,l=>(0,false,l)
 |_+1,_,_,[]=>(0,false,[])
 |k+1,i,v,b::l=>if b<128 then (((v+b.toNat % 128*128 ^ i:Nat):Int),decide (v+b.toNat % 128*128 ^ i<=2147483647) && (decide (0<b) || decide (i=0)),l) else vX k (i+1) (v+b.toNat % 128*128 ^ i) l
theorem SG:∀a:Fin 256,ar .and .u8 ((a.1:Nat):Int) 127=((a.1 % 128:Nat):Int):=by decide+kernel
theorem QH{b:Int}(h:0<=b/\b<=255):ar .and .u8 b 127=((b.toNat % 128:Nat):Int):=by
 have:=SG ⟨b.toNat,by omega⟩;have e:((b.toNat:Nat):Int)=b:=by omega
 simpa[e] using this
theorem QI(i:Nat):128 ^ i=2 ^ (7*i):=by rw[Nat.pow_mul]
theorem SH{c i:Nat}(hi:i<=4)(hc:c<128):sh .shl .i64 (c:Int) ((7*i:Nat):Int)=((c*128 ^ i:Nat):Int):=by
 show IntKind.wrap .i64 ((c:Int)*2 ^ min ((7*i:Nat):Int).toNat (IntKind.bits .i64))=_;rw[aAf,show IntKind.bits .i64=64 from rfl,aB2 (by omega),QI];have h:2 ^ (7*i)<=2 ^ 28:=aD8 (by decide) (by omega);have u:c*2 ^ (7*i)<=127*2 ^ 28:=aCt (by omega) h;have e:(c:Int)*2 ^ (7*i)=((c*2 ^ (7*i):Nat):Int):=by push_cast;rfl
 rw[e,wrap_i64 (by omega)]
theorem SI{a b:Nat}(ha:a<4611686018427387904)(hb:b<4611686018427387904):ar .or .i64 (a:Int) (b:Int)=((a ||| b:Nat):Int):=by
 have h:a ||| b<2 ^ 62:=aD0 (by simpa using ha) (by simpa using hb)
 show IntKind.wrap .i64 ((BitVec.ofInt 64 (a:Int) ||| BitVec.ofInt 64 (b:Int)).toNat:Int)=_;simp only[rA,BitVec.toNat_or,aB8];rw[aA2 (a:=a) (by omega),aA2 (a:=b) (by omega)];exact wrap_i64 (by omega)
theorem QJ{v c i:Nat}(hi:i<=4)(hc:c<128)(hv:v<128 ^ i):ar .or .i64 (v:Int) ((c*128 ^ i:Nat):Int)=((v+c*128 ^ i:Nat):Int):=by
 have h:128 ^ i<=128 ^ 4:=aD8 (by decide) hi;have u:c*128 ^ i<=127*128 ^ 4:=aCt (by omega) h;rw[SI (by omega) (by omega)];congr 1;rw[QI] at*;have:=aD9 hv c;rw[Nat.shiftLeft_eq] at this;rw[Nat.or_comm,<-this,aCz]
theorem QK{v c i:Nat}(hc:c<128)(hv:v<128 ^ i):v+c*128 ^ i<128 ^ (i+1):=by
 rw[aEf];have:c*128 ^ i<=127*128 ^ i:=aBx _ (by omega);omega
theorem NT(l:List Int)(hb:Bytes l)(hl:l.length<=1000000):fQ l=some (vX 5 0 0 l):=by
 unfold fQ;have M:∀(k i v:Nat) (l:List Int) (f:Nat),i+k=5->v<128 ^ i->Bytes l->l.length<=1000000->k<f->
   ∃e,loop (fun (h:Int×Int×(List Int))=>
  bif (cm .lss h.2.1 (35:Int)) then
   (eJ h.2.2).bind fun u=>
    bif (!u.2.1) then
     some (.done (.ret ((0:Int),false,u.2.2)))
    else
     (nn h.2.1).bind fun _=>
      bif (cm .lss u.1 (128:Int)) then
       (bif (cm .leq (ar .or .i64 h.1 (sh .shl .i64 (ar .and .u8 u.1 (127:Int)) h.2.1)) (2147483647:Int)) then
        bif (cm .gtr u.1 (0:Int)) then
         some true
        else
         some (cm .eql h.2.1 (0:Int))
       else
        some false).bind fun T=>
        some (.done (.ret ((ar .or .i64 h.1 (sh .shl .i64 (ar .and .u8 u.1 (127:Int)) h.2.1)),T,u.2.2)))
      else
       some (.next ((ar .or .i64 h.1 (sh .shl .i64 (ar .and .u8 u.1 (127:Int)) h.2.1)),(ar .add .i64 h.2.1 (7:Int)),u.2.2))
  else
   some (.done (.brk h.2.2))
  ) f ((v:Int),((7*i:Nat):Int),l)=some e/\out (fun (U:List Int)=>some ((0:Int),false,U)) e=some (vX k i v l):=by
  intro k
  induction k with
  |zero=>
   intro i v l f R I hb hl S;obtain⟨f,rfl⟩:∃f',f=f'+1:=⟨f - 1,by omega⟩
   have N:i=5:=by omega
   subst N;exact⟨.brk l,rfl,rfl⟩
  |succ k V=>
   intro i v l f R I hb hl S;obtain⟨f,rfl⟩:∃f',f=f'+1:=⟨f - 1,by omega⟩
   have O:cm .lss ((7*i:Nat):Int) 35=true:=by rw[cl];simp;omega
   have P:nn ((7*i:Nat):Int)=some ():=by unfold nn;rw[aAn (by omega)]
   simp only[loop,O,aAe,Ri l hl,cM];cases l with
   |nil=>exact⟨.ret (0,false,[]),by simp[Ub],rfl⟩
   |cons b l=>
    have Q:=hb.head;have D:b.toNat % 128<128:=aCv _ (by decide);simp only[Ub,aBz,pF,P,cM,QH Q,SH (by omega:i<=4) D,QJ (by omega:i<=4) D I,cl,cle,cg,ce];by_cases A:b<128
    ·simp only[A,aB9,aAe];refine⟨.ret (((v+b.toNat % 128*128 ^ i:Nat):Int),decide (v+b.toNat % 128*128 ^ i<=2147483647) && (decide (0<b) || decide (i=0)),l),?_,?_⟩
     ·by_cases E:v+b.toNat % 128*128 ^ i<=2147483647
      ·have B:((v+b.toNat % 128*128 ^ i:Nat):Int)<=2147483647:=by omega
       by_cases F:b>0
       ·have G:0<b:=F;simp only[B,E,G,gt_iff_lt,aB9,aAe,cM,aEq,Bool.true_or]
       ·have G:¬0<b:=F;have H:(((7*i:Nat):Int)=0)↔i=0:=by omega
        simp only[B,E,F,G,H,aB9,aA5,aAe,pF,cM,aEq,Bool.false_or]
      ·have B:¬((v+b.toNat % 128*128 ^ i:Nat):Int)<=2147483647:=by omega
       simp only[B,E,aA5,pF,cM,Bool.false_and]
     ·simp only[out,vX,A,aBb]
    ·simp only[A,aA5,pF];have H:ar .add .i64 ((7*i:Nat):Int) 7=((7*(i+1):Nat):Int):=by rw[addI (by omega)];push_cast;omega
     rw[H];obtain⟨e,K,C⟩:=V (i+1) (v+b.toNat % 128*128 ^ i) l f (by omega) (QK D I) hb.tail (by simp at hl;omega) (by omega);refine⟨e,K,?_⟩;rw[C];simp only[vX,A,aA4]
 obtain⟨e,K,C⟩:=M 5 0 0 l fI rfl (by decide) hb hl (by unfold fI;omega);unfold lp;have L:=K;simp only[Nat.mul_zero] at L;rw[show ((0:Int),(0:Int),l)=(((0:Nat):Int),((0:Nat):Int),l) from rfl,L];cases e with
 |brk y=>exact C
 |ret z=>exact C
theorem Uc:∀(k i v:Nat) (l:List Int),(vX k i v l).2.2.length<=l.length
 | 0,_,_,l=>aAi _
 |_+1,_,_,[]=>aAi _
 |k+1,i,v,b::l=>by
  unfold vX;split
  ·simp
  ·exact aBq (Uc k _ _ l) (by simp)
theorem Zo:∀(k i v:Nat) (l r:List Int) (w:Int),i+k=5->v<128 ^ i->Bytes l->vX k i v l=(w,true,r)->
  ∃q:Nat,w=((v+q*128 ^ i:Nat):Int)/\v+q*128 ^ i<=2147483647/\l=vf (k - 1) q++r/\(0<i->0<q)
 | 0,_,_,_,_,_,_,_,_,h=>by simp[vX] at h
 |_+1,_,_,[],_,_,_,_,_,h=>by simp[vX] at h
 |k+1,i,v,b::l,r,w,P,K,B,h=>by
  have L:=B.head;unfold vX at h;split at h
  ·rename_i H;have C:b.toNat % 128=b.toNat:=aA2 (by omega);simp only[aBg,aAr,aCi,aC2,C] at h;obtain⟨rfl,⟨u,z⟩,rfl⟩:=h;refine⟨b.toNat,rfl,u,?_,fun O=>by omega⟩;have e:((b.toNat:Nat):Int)=b:=by omega
   cases k with
   |zero=>simp[vf,e]
   |succ k=>simp only[aDt];unfold vf;rw[aAn (by omega),e];rfl
  ·rename_i H;have D:b.toNat % 128<128:=aCv _ (by decide);obtain⟨q,u,z,A,I⟩:=Zo k (i+1) (v+b.toNat % 128*128 ^ i) l r w (by omega) (QK D K) B.tail h;have M:0<k:=by
    cases k with
    |zero=>simp[vX] at h
    |succ k=>omega
   obtain⟨k,rfl⟩:∃k',k=k'+1:=⟨k - 1,by omega⟩
   have e:v+b.toNat % 128*128 ^ i+q*128 ^ (i+1)=v+(b.toNat % 128+128*q)*128 ^ i:=by rw[aEf,aBe];rw[aEc 128 q,Nat.mul_assoc q 128,aEc 128 (128 ^ i)];omega
   have N:=I (by omega);refine⟨b.toNat % 128+128*q,by rw[u,e],by rw[<-e];exact z,?_,fun _=>by omega⟩;simp only[aDt] at A ⊢;unfold vf;rw[aAj (by omega),A];have E:(b.toNat % 128+128*q) % 128=b.toNat % 128:=by omega
   have F:(b.toNat % 128+128*q) / 128=q:=by omega
   rw[E,F];have G:((128+b.toNat % 128:Nat):Int)=b:=by omega
   rw[G];rfl
theorem Zp:∀(k i v q:Nat) (r:List Int),i+k=4->v+q*128 ^ i<=2147483647->(0<i->0<q)->vX (k+1) i v (vf k q++r)=(((v+q*128 ^ i:Nat):Int),true,r)
 | 0,i,v,q,r,C,z,u=>by
  have A:i=4:=by omega
  subst A;have h:q<128:=by omega
  have u:=u (by omega);have e:q % 128=q:=aA2 h;simp only[vf,aBh,aBd,vX,aAf,e];rw[aAn (by omega)];simp;omega
 |k+1,i,v,q,r,C,z,u=>by
  unfold vf;by_cases h:q<128
  ·have e:q % 128=q:=aA2 h;simp only[h,aBb,aBh,aBd,vX,aAf,e];rw[aAn (by omega)];simp;omega
  ·simp only[h,aA4,aBh,vX,aAf];rw[aAj (by omega)];have B:(128+q % 128) % 128=q % 128:=by omega
   have e:v+q % 128*128 ^ i+q / 128*128 ^ (i+1)=v+q*128 ^ i:=by
    rw[aEf];have:q*128 ^ i=(q % 128+128*(q / 128))*128 ^ i:=by rw[Nat.mod_add_div]
    rw[this,aBe,aEc 128 (q / 128),Nat.mul_assoc,aEc 128 (128 ^ i)];omega
   rw[B,Zp k (i+1) (v+q % 128*128 ^ i) (q / 128) r (by omega) (by rw[e];exact z) (fun _=>by omega),e]
def zD:Nat->List Int->List Int->Option (List Int×List Int)
 | 0,acc,l=>some (l,acc)
 |n+1,acc,l=>if (vX 5 0 0 l).2.1 then zD n (acc++[(vX 5 0 0 l).1]) (vX 5 0 0 l).2.2 else none
theorem Fj:∀(k i v:Nat) (l:List Int),Bytes l->Bytes (vX k i v l).2.2
 | 0,_,_,l,h=>h
 |_+1,_,_,[],h=>h
 |k+1,i,v,b::l,h=>by
  unfold vX;split
  ·exact h.tail
  ·exact Fj k _ _ l h.tail
theorem Mc:∀(n:Nat) (acc l r acc':List Int),Bytes l->zD n acc l=some (r,acc')->∃ns,acc'=acc++ns/\ns.length=n/\(∀x∈ns,0<=x/\x<=2147483647)/\l=vs ns++r
 | 0,acc,l,r,acc',_,h=>by
  simp only[zD,aAk,aBg] at h;obtain⟨rfl,rfl⟩:=h;exact⟨[],by simp,rfl,fun x u=>by simp at u,rfl⟩
 |n+1,acc,l,r,acc',A,h=>by
  unfold zD at h;split at h
  ·rename_i B;obtain⟨ns,C,D,E,F⟩:=Mc n _ _ r acc' (Fj _ _ _ _ A) h;obtain⟨q,z,G,H,_⟩:=Zo 5 0 0 l (vX 5 0 0 l).2.2 (vX 5 0 0 l).1 rfl (by decide) A (by rw[<-B]);simp only[Nat.pow_zero,Nat.mul_one,aC4] at z G;refine⟨(q:Int)::ns,by rw[C,z];simp,by simp[D],fun x u=>?_,?_⟩
   ·rcases aAo.1 u with rfl | u
    ·omega
    ·exact E x u
   ·have e:vs ((q:Int)::ns)=vf 4 q++vs ns:=by simp[vs]
    rw[H,F,e,aAm]
  ·cases h
theorem Ud:∀(ns acc r:List Int),(∀x∈ns,0<=x/\x<=2147483647)->zD ns.length acc (vs ns++r)=some (r,acc++ns)
 | [],acc,r,_=>by simp[zD,vs]
 |x::ns,acc,r,h=>by
  have A:=h x (by simp);have e:vs (x::ns)++r=vf 4 x.toNat++(vs ns++r):=by simp[vs]
  have g:=Zp 4 0 0 x.toNat (vs ns++r) rfl (by omega) (fun h=>by omega);simp only[Nat.pow_zero,Nat.mul_one,aC4] at g;have u:((x.toNat:Nat):Int)=x:=by omega
  rw[e,aAq,zD,g];simp only[aBb,u];rw[Ud ns _ r (fun y z=>h y (by simp[z]))];simp
theorem Jg{c l:List Int}(hc:c.length=8):Sw.chunks 8 (c++l)=c::Sw.chunks 8 l:=by
 unfold Sw.chunks;have e:((c++l).length+8 - 1) / 8=(l.length+8 - 1) / 8+1:=by rw[sM,hc];omega
 rw[e,List.range_succ_eq_map,aAx,aEv];congr 1
 ·rw[Nat.zero_mul,List.drop_zero,List.take_append_of_le_length (by omega),aB0 (by omega)]
 ·apply List.map_congr_left;intro k _;simp only[Function.comp_apply,Nat.succ_eq_add_one];rw[show (k+1)*8=c.length+k*8 by omega,aD4];congr 1;simp
theorem Jh:∀(bs:List aQ),(∀b∈bs,b.length=8)->Sw.chunks 8 bs.flatten=bs
 | [],_=>rfl
 |b::bs,h=>by rw[aC1,Jg (h b (by simp)),Jh bs (fun c u=>h c (by simp[u]))]
theorem Cl:∀(m:Nat) (l:List Int),l.length=8*m->(Sw.chunks 8 l).flatten=l/\(∀b∈Sw.chunks 8 l,b.length=8)/\(Sw.chunks 8 l).length=m
 | 0,l,h=>by
  have:l=[]:=List.length_eq_zero_iff.1 (by omega);subst this;exact⟨rfl,fun b u=>by simp[Sw.chunks] at u,rfl⟩
 |m+1,l,h=>by
  have e:l=l.take 8++l.drop 8:=(aAt 8 l).symm;have z:(l.take 8).length=8:=by simp;omega
  obtain⟨A,B,C⟩:=Cl m (l.drop 8) (by simp;omega);rw[e,Jg z];refine⟨by rw[aC1,A],fun b u=>?_,by simp[C]⟩;rcases aAo.1 u with rfl | u
  ·exact z
  ·exact B b u
theorem GU{l:List Int}{bs:List aQ}(h:bs.flatten=l)(hb:Bytes l):∀b∈bs,Bytes b:=fun b u x z=>hb x (by rw[<-h];exact List.mem_flatten.2 ⟨b,u,z⟩)
def Ic:List Int->Option eR
 |b0::b1::r=>match zD (b0.toNat % 16) [] r with
  |some (rest,h)=>if b1>32\/h.length>12\/(rest.length:Int)≠8*b1 then none else some (((b0.toNat / 16:Nat):Int),h,Sw.chunks 8 rest)
  |none=>none
 |_=>none
theorem Zq{n:Nat}(h:n<256):IntKind.wrap .u8 (n:Int)=n:=by rw[Ck];omega
theorem Rj{f:eR}(g:Good f):Gu f=[((16*f.1.toNat+f.2.1.length:Nat):Int),(f.2.2.length:Int)]:=by
 have h:=g.s0;have u:=g.s1;have z:=g.ns;have A:=g.bs;unfold Gu;have e:ar .add .i64 (ar .mul .i64 16 f.1) (f.2.1.length:Int)=((16*f.1.toNat+f.2.1.length:Nat):Int):=by
  have:ar .mul .i64 16 f.1=16*f.1:=wrap_i64 (by omega);rw[this,addI (by omega)];omega
 rw[e,Zq (by omega),Zq (by omega)]
theorem CD{b:List Int}{f:eR}(hb:Bytes b)(h:Ic b=some f):Good f/\dH f=0/\body f=b:=by
 match b,h with
 |b0::b1::r,h=>
  have P:=hb.head;have Q:=hb.tail.head;have z:=hb.tail.tail;simp only[Ic] at h;cases hn:zD (b0.toNat % 16) [] r with
  |none=>rw[hn] at h;cases h
  |some p=>
   obtain⟨rest,K⟩:=p;rw[hn] at h;simp only at h;split at h
   ·cases h
   ·rename_i R;simp only[aAk] at h;subst h;obtain⟨S,B,L,C,D⟩:=Mc _ _ _ _ _ z hn;simp only[aBd] at B;subst B;obtain⟨E,M,N⟩:=Cl b1.toNat rest (by omega);have F:Bytes rest:=fun x u=>z x (by rw[D];simp[u]);have A:Good (((b0.toNat / 16:Nat):Int),K,Sw.chunks 8 rest):=⟨by simp only;omega,by simp only;omega,by simp only;omega,by simp only;omega,C,fun b hb=>⟨M b hb,GU E F b hb⟩⟩
    refine⟨A,?_,?_⟩
    ·unfold dH;rw[aAj (by simp only;omega),aAj (by simp only;omega),aAj];intro I;obtain⟨x,u,O⟩:=aDe.1 I;have:=C x u;simp[vQ] at O;omega
    ·unfold body;rw[Rj A];simp only[E,N,L,aBh,aBd];rw[D];have G:((16*(((b0.toNat / 16:Nat):Int)).toNat+b0.toNat % 16:Nat):Int)=b0:=by rw[aAf];omega
     have H:((b1.toNat:Nat):Int)=b1:=by omega
     rw[G,H]
theorem Ue{f:eR}(g:Good f):Ic (body f)=some f:=by
 have B:=g.s0;have C:=g.s1;have D:=g.ns;have E:=g.bs;unfold body;rw[Rj g];simp only[aBh,aBd,Ic,aAf];have h:(16*f.1.toNat+f.2.1.length) % 16=f.2.1.length:=by omega
 have u:(16*f.1.toNat+f.2.1.length) / 16=f.1.toNat:=by omega
 rw[h,u,Ud _ _ _ g.num];simp only[aBd];have F:=(flat_bytes g.blk).2;rw[aAj (by omega),Jh _ (fun b A=>(g.blk b A).1)];have z:((f.1.toNat:Nat):Int)=f.1:=by omega
 rw[z]
end Go.PlFr
namespace Go.PlFr
open Go.Pl
open Go Go.Sw Go.Mo
def eP(a:List Int):Option eR:=
 if a.length<6 then none else if a.drop (a.length - 4)=sum4 (4294967295 - zC (nat (a.take (a.length - 4)))) then Ic (a.take (a.length - 4)) else none
theorem NU{n c:Nat}(hc:c<=32):sh .shr .u32 (n:Int) (c:Int)=((n / 2 ^ c:Nat):Int):=by
 show Int.fdiv _ _=_;rw[aAf,show IntKind.bits .u32=32 from rfl,aB2 hc,aBj _ (aEb (aEx (by decide)))];push_cast;rfl
theorem LC{S:Nat}(h:S<4294967296): [(IntKind.wrap .u8 (sh .shr .u32 (S:Int) (24:Int))),(IntKind.wrap .u8 (sh .shr .u32 (S:Int) (16:Int))),(IntKind.wrap .u8 (sh .shr .u32 (S:Int) (8:Int))),(IntKind.wrap .u8 (S:Int))]=sum4 S:=by
 rw[show (24:Int)=((24:Nat):Int) from rfl,show (16:Int)=((16:Nat):Int) from rfl,show (8:Int)=((8:Nat):Int) from rfl,NU (by decide),NU (by decide),NU (by decide),Ck,Ck,Ck,Ck];unfold sum4;have e:S / 2 ^ 24 % 256=S / 16777216:=by omega
 rw[e]
theorem QL:∀a:Fin 256,ar .and .u8 ((a.1:Nat):Int) 15=((a.1 % 16:Nat):Int):=by decide+kernel
theorem NV{b:Int}(h:0<=b/\b<=255):ar .and .u8 b 15=((b.toNat % 16:Nat):Int):=by
 have:=QL ⟨b.toNat,by omega⟩;have e:((b.toNat:Nat):Int)=b:=by omega
 simpa[e] using this
theorem SJ:∀a:Fin 256,sh .shr .u8 ((a.1:Nat):Int) 4=((a.1 / 16:Nat):Int):=by decide+kernel
theorem QM{b:Int}(h:0<=b/\b<=255):sh .shr .u8 b 4=((b.toNat / 16:Nat):Int):=by
 have:=SJ ⟨b.toNat,by omega⟩;have e:((b.toNat:Nat):Int)=b:=by omega
 simpa[e] using this
theorem SK{n:Nat}(h:n<200):ar .add .u8 (n:Int) 1=((n+1:Nat):Int):=by
 show IntKind.wrap .u8 ((n:Int)+1)=_;have:(n:Int)+1=((n+1:Nat):Int):=by push_cast;rfl
 rw[this,Zq (by omega)]
theorem Pn{z:eR×Option Int}(N:Nat)(hN:N<=15):∀(n j:Nat) (l acc:List Int) (f:Nat),j+n=N->Bytes l->l.length<=1000000->acc.length+n<=1000->n<f->
  loop (β:=Ex ((List Int)×(List Int)) (eR×Option Int)) (fun (s19:Int×(List Int)×(List Int))=>
                bif (cm .lss s19.1 (N:Int)) then
                 (fQ s19.2.1).bind fun v27=>
                  bif (!v27.2.1) then
                   some (.done (.ret z))
                  else
                   (Sw.app s19.2.2 ([v27.1]:(List Int))).bind fun v29=>
                    some (.next ((ar .add .u8 s19.1 (1:Int)),v27.2.2,v29))
                else
                 some (.done (.brk (s19.2.1,s19.2.2)))
                ) f ((j:Int),l,acc)=some (match zD n acc l with | some p=> .brk p | none=> .ret z)
 | 0,j,l,acc,f,B,u,A,C,D=>by
  obtain⟨f,rfl⟩:∃f',f=f'+1:=⟨f - 1,by omega⟩
  have:cm .lss (j:Int) (N:Int)=false:=by rw[cl];simp;omega
  simp only[loop,this,pF,zD]
 |n+1,j,l,acc,f,B,u,A,C,D=>by
  obtain⟨f,rfl⟩:∃f',f=f'+1:=⟨f - 1,by omega⟩
  have:cm .lss (j:Int) (N:Int)=true:=by rw[cl];simp;omega
  simp only[loop,this,aAe,NT l u A,cM,zD];by_cases h:(vX 5 0 0 l).2.1=true
  ·simp only[h,aBz,pF,aBb];rw[app_small _ _ (by simp;omega),cM,SK (by omega)];exact Pn N hN n (j+1) _ _ f (by omega) (Fj _ _ _ _ u) (aBq (Uc _ _ _ _) A) (by simp;omega) (by omega)
  ·simp only[aB3] at h;simp only[h,aCg,aAe,aAw,aA4]
theorem Zs:∀(its acc:List aQ),(∀i∈its,i.length=8)->acc.length+its.length<=1000000->
  rng (δ:=Empty) (fun (z38:(List Int)) (s45:(List aQ))=>
    (Sw.arrOf 8 z38).bind fun z46=>
     (Sw.app s45 ([z46]:(List aQ))).bind fun v47=>
      some (.next v47)
    ) its acc=some (.brk (acc++its))
 | [],acc,_,_=>by simp[rng]
 |i::is,acc,h,u=>by
  have A:=h i (by simp);have e:Sw.arrOf 8 i=some i:=by unfold Sw.arrOf;rw[aAn (by omega),aB0 (by omega)]
  simp only[rng,e,cM];rw[app_small _ _ (by simp at u ⊢;omega)];simp only[cM];rw[Zs is _ (fun j z=>h j (by simp[z])) (by simp at u ⊢;omega)];simp
theorem rD(a:List Int)(hb:Bytes a)(hl:a.length<=10000):eX a=some (match eP a with | some f=>(f,none) | none=>((0,[],[]),some 3)):=by
 unfold eX eP;rw[cl];by_cases G:a.length<6
 ·have:(a.length:Int)<6:=by omega
  simp[G,this]
 have O:¬(a.length:Int)<6:=by omega
 simp only[G,O,aA5,pF,aA4];generalize hL:a.length - 4=L;have P:ar .sub .i64 (a.length:Int) 4=(L:Int):=by rw[subI (by omega)];omega
 have Q:Sw.sub a 0 (L:Int)=some (a.take L):=by unfold Sw.sub;rw[aAn (by omega)];simp
 have B:(a.take L).length=L:=by simp;omega
 have R:Sw.sub a (L:Int) (a.length:Int)=some (a.drop L):=by unfold Sw.sub;rw[aAn (by omega)];simp
 have ad:(a.drop L).length=4:=by simp;omega
 have S:Sw.arrOf 4 (a.drop L)=some (a.drop L):=by unfold Sw.arrOf;rw[aAn (by omega),aB0 (by omega)]
 have C:Bytes (a.take L):=fun x hx=>hb x (aCo hx);have T:=GR (a.take L) C (by omega);rw[P,Q,cM,T,cM,B,R,cM,S,cM,LC (by omega)];by_cases H:a.drop L=sum4 (4294967295 - zC (nat (a.take L)))
 ·simp only[H,aB9,aBz,pF,aBb];generalize hp:a.take L=p at*
  match p,B with
  | [],h=>simp at h;omega
  | [_],h=>simp at h;omega
  |b0::b1::r,B=>
   have I:=C.head;have ae:=C.tail.head;have K:=C.tail.tail;have af:r.length<=10000:=by simp at B;omega
   rw[Ri _ (by simp;omega),cM];simp only[Ub];rw[Ri _ (by simp;omega),cM];simp only[Ub,NV I,QM I,Ic];have U:=Pn (z:=((0,[],[]),some 3)) (b0.toNat % 16) (by omega) (b0.toNat % 16) 0 r [] fI (by omega) K (by omega) (by simp;omega) (by unfold fI;omega);unfold lp;rw[show ((0:Int),r,([]:List Int))=(((0:Nat):Int),r,([]:List Int)) from rfl,U];cases hn:zD (b0.toNat % 16) [] r with
   |none=>rfl
   |some q=>
    obtain⟨u,E⟩:=q;obtain⟨ai,N,h2,h3,h4⟩:=Mc _ _ _ _ _ K hn;simp only[aBd] at N;subst N;have ah:u.length<=r.length:=by rw[h4];simp
    have V:ar .mul .i64 b1 8=8*b1:=by show IntKind.wrap .i64 _=_;rw[wrap_i64 (by omega)];omega
    simp only[cg,cn,V];by_cases D:b1>32
    ·simp[D]
    by_cases F:E.length>12
    ·have A:(E.length:Int)>12:=by omega
     simp[D,F,A]
    by_cases M:(u.length:Int)≠8*b1
    ·have A:¬(E.length:Int)>12:=by omega
     simp[D,F,A,M]
    have A:¬(E.length:Int)>12:=by omega
    have X:(u.length:Int)=8*b1:=aC6.1 M;obtain⟨g1,g2,g3⟩:=Cl b1.toNat u (by omega);have aa:jJ u 8=some (u,8):=rfl;have ab:small u=some ():=by unfold small;rw[aAn (by omega)]
    have ac:chkn 8=some ():=by decide
    simp only[D,F,A,X,ne_eq,aEz,aA5,pF,cM,aE0,aA4,aa,ab,ac,rg];rw[show Int.toNat 8=8 from rfl,Zs _ _ g2 (by simp;omega)];simp
 ·simp only[H,aA5,aCg,aAe,aA4]
theorem Fk{a:List Int}{f:eR}(hb:Bytes a)(h:eP a=some f):Good f/\dH f=0/\bC f=a:=by
 unfold eP at h;split at h
 ·cases h
 ·split at h
  ·rename_i D u;obtain⟨A,B,C⟩:=CD (fun x z=>hb x (aCo z)) h;refine⟨A,B,?_⟩;unfold bC;rw[C,<-u,aAt]
  ·cases h
theorem lF{f:eR}(g:Good f):eP (bC f)=some f:=by
 have A:2<=(body f).length:=by unfold body;rw[Rj g];simp
 have h:(bC f).length=(body f).length+4:=by simp[bC,sum4]
 have u:(bC f).take ((bC f).length - 4)=body f:=by rw[h,aDt];unfold bC;simp
 have z:(bC f).drop ((bC f).length - 4)=sum4 (4294967295 - zC (nat (body f))):=by rw[h,aDt];unfold bC;simp
 unfold eP;rw[aAj (by omega),u,z,aAn rfl,Ue g]
end Go.PlFr
namespace Go.PlFr
open Go.Pl
open Go Go.Sw Go.Mo
theorem loop_next{α β:Type}{step:α->Option (Step α β)}{x y:α}{f:Nat}(h:step x=some (.next y)):loop step (f+1) x=loop step f y:=by simp only[loop,h]
theorem loop_done{α β:Type}{step:α->Option (Step α β)}{x:α}{b:β}{f:Nat}(h:step x=some (.done b)):loop step (f+1) x=some b:=by simp only[loop,h]
end Go.PlFr
namespace Go.PlFr
open Go.Pl
open Go Go.Sw Go.Mo
end Go.PlFr
namespace Go.PlFr
open Go.Pl
open Go Go.Sw Go.Mo
theorem Xd{S:Nat}(h:S<4294967296):Bytes (sum4 S):=fun x u=>by
 simp only[sum4,aAo,aCs,aEu] at u;rcases u with rfl | rfl | rfl | rfl<;>omega
theorem Ar{f:eR}(g:Good f):Bytes (bC f):=fun x h=>by
 unfold bC at h;rcases aA0.1 h with h | h
 ·exact(qH g).1 x h
 ·exact Xd (by omega) x h
end Go.PlFr
namespace Go.PlFr
open Go.Pl
open Go Go.Sw Go.Mo
theorem GW(x:Int):oQ x=some (vQ x):=by
 unfold oQ vQ;by_cases h:x<0
 ·have:cm .lss x 0=true:=by simp[cm,h]
  simp[this,h]
 ·have:cm .lss x 0=false:=by simp[cm];omega
  simp[this,h,cm]
theorem Rk(l:List Int)(h:l.length<=1000000):cI l=some (l.any vQ):=by
 unfold cI dK;rw[show (0:Int)=((0:Nat):Int) from rfl,Al (l:=l) (fun i (_:Unit)=>(i:Int)) () (fun i x _=>if vQ x then .done (.ret (i:Int)) else .next ()) (fun _=> .brk ()) (by unfold fI;omega)]
 ·rw[Tx (fun i=>(i:Int)),Ty];cases l.findIdx? vQ<;>simp[out,cm]
 ·rintro u x z acc rfl;simp only[oC,aAe,lY,cM,GW,FR (n:=u.length) (m:=1000000) (by simp at h;omega) (by omega)];cases vQ x<;>simp[Ho]
 ·intro _;simp[dC]
theorem number_is(a b:Int):pH [a,b]=some (!(vQ a || vQ b)):=by
 unfold pH;rw[Rk _ (by simp)];simp
theorem bad_no{x:Int}:vQ x=false↔0<=x/\x<=2147483647:=by unfold vQ;simp
theorem NW{α A β γ:Type}{step:α->Option (Step α (Ex β γ))}{l:List A}{k:β->Option γ}(st:Nat->α)(z:A->Option γ)(y:β)(hf:l.length<fI)
  (hs:∀pre x rest,l=pre++x::rest->step (st pre.length)=some (match z x with | some v=> .done (.ret v) | none=> .next (st (pre.length+1)))) (he:step (st l.length)=some (.done (.brk y))):
  lp step (st 0) k=(l.findSome? z).elim (k y) some:=by
 have u:∀(rest pre:List A) (f:Nat),l=pre++rest->rest.length<f->loop step f (st pre.length)=some (match rest.findSome? z with | some v=> .ret v | none=> .brk y):=by
  intro rest
  induction rest with
  |nil=>
   intro pre f h hf;obtain⟨f,rfl⟩:∃f',f=f'+1:=⟨f - 1,by simp at hf;omega⟩
   rw[aBa] at h;rw[<-h];simp[loop,he]
  |cons x rest B=>
   intro pre f h hf;obtain⟨f,rfl⟩:∃f',f=f'+1:=⟨f - 1,by simp at hf;omega⟩
   simp only[loop,hs pre x rest h,List.findSome?_cons];cases hz:z x with
   |some v=>simp
   |none=>
    have:=B (pre++[x]) f (by rw[h];simp) (by simp at hf;omega);simpa using this
 have:=u l [] fI rfl hf;unfold lp;simp only[aA9] at this;rw[this];cases l.findSome? z<;>rfl
def cZ(f:eR):Int:=if dH f=0 then (if 9<f.2.1.length then 2 else 0) else dH f
theorem Zt(f:eR):sQ f=some (if cZ f=0 then none else some (cZ f)):=by
 unfold sQ cZ;rw[Ej,cM,cg];by_cases h:dH f=0
 ·simp only[h,aBb,aAa,pF];by_cases u:9<f.2.1.length
  ·have:(f.2.1.length:Int)>9:=by omega
   simp[u,this]
  ·have:¬(f.2.1.length:Int)>9:=by omega
   simp[u,this]
 ·simp[h]
def tH(l:List eR):Option Int:=l.findSome? fun f=>if cZ f=0 then none else some (cZ f)
abbrev tI:=Int×Int×List eR
def iU(s:tI):Int:=if vQ s.1 || vQ s.2.1 then 1 else if 64<s.2.2.length then 2 else (tH s.2.2).getD 0
theorem Uf{l:List eR}{e:Int}(h:tH l=some e):e≠0:=by
 obtain⟨f,_,u⟩:=List.exists_of_findSome?_eq_some h;split at u
 ·cases u
 ·cases u;assumption
theorem check_is(s:tI):nZ s=some (if iU s=0 then none else some (iU s)):=by
 unfold nZ iU;rw[number_is,cM];by_cases u:(vQ s.1 || vQ s.2.1)=true
 ·simp[u]
 ·simp only[aB3] at u;simp only[u,aCg,aBz,pF,aAw,aA4,cg];by_cases z:64<s.2.2.length
  ·have:(s.2.2.length:Int)>64:=by omega
   simp[z,this]
  ·have:¬(s.2.2.length:Int)>64:=by omega
   simp only[z,this,aA5,pF,aA4];rw[show (0:Int)=(fun (i:Nat)=>(i:Int)) 0 from rfl];rw[NW (l:=s.2.2) (fun (i:Nat)=>(i:Int)) (fun f=>if cZ f=0 then none else some (some (cZ f))) () (by unfold fI;omega)]
   ·have e:s.2.2.findSome? (fun f=>if cZ f=0 then none else some (some (cZ f)))=(tH s.2.2).map some:=by
     unfold tH
     induction s.2.2 with
     |nil=>rfl
     |cons f l B=>simp only[List.findSome?_cons];by_cases h:cZ f=0<;>simp[h,B]
    rw[e];cases hf:tH s.2.2 with
    |none=>simp
    |some e=>have:=Uf hf;simp[this]
   ·rintro C x D h;rw[h];simp only[oC,aAe,lY,cM,Zt];rw[nxt (by have:=congrArg List.length h;simp at this;omega)];by_cases A:cZ x=0<;>simp[A]
   ·simp[dC]
def Ug(f:eR):Prop:=f.2.1.length<=1000/\f.2.2.length<=1000
theorem Uh{f:eR}(h:cZ f=0):Ug f:=by
 unfold cZ at h;split at h
 ·rename_i u;unfold dH at u;unfold Ug;split at u
  ·simp at u
  ·split at u
   ·simp at u
   ·omega
 ·exact absurd h (by assumption)
theorem Ji{s:tI}(h:iU s=0):(0<=s.1/\s.1<=2147483647)/\(0<=s.2.1/\s.2.1<=2147483647)/\s.2.2.length<=64/\∀f∈s.2.2,Ug f:=by
 unfold iU at h;split at h
 ·simp at h
 ·rename_i u;simp only[aB3,Bool.or_eq_false_iff] at u;split at h
  ·simp at h
  ·rename_i C;refine⟨bad_no.1 u.1,bad_no.1 u.2,by omega,fun f B=>Uh ?_⟩;have A:tH s.2.2=none:=by
    cases hf2:tH s.2.2 with
    |none=>rfl
    |some e=>rw[hf2] at h;exact absurd h (Uf hf2)
   have:=List.findSome?_eq_none_iff.1 A f B;by_cases z:cZ f=0
   ·exact z
   ·simp[z] at this
theorem Ui(l:List eR)(hl:l.length<=64)(h:∀f∈l,Ug f):qX l=some l:=by
 unfold qX;rw[show ((0:Int),([]:List eR))=(fun (i:Nat) (acc:List eR)=>((i:Int),acc)) 0 [] from rfl];rw[lp_inv (l:=l) (fun (i:Nat) (acc:List eR)=>((i:Int),acc)) (fun i acc=>acc.length=i) [] (fun _ f acc=>acc++[f]) id (by unfold fI;omega) rfl]
 ·have:∀(l:List eR) (i:Nat) (acc:List eR),(l.zipIdx i).foldl (fun acc x=>acc++[x.1]) acc=acc++l:=by
   intro l
   induction l with
   |nil=>intro i acc;simp
   |cons x l G=>intro i acc;rw[aCk,aA8,G];simp
  rw[this];rfl
 ·intro u x A acc z F;have B:=h x (by rw[z];simp);have H:u.length<64:=by have:=congrArg List.length z;simp at this;omega
  have C:cm .lss (u.length:Int) (l.length:Int)=true:=by rw[z];exact oC u x A
  have D:Sw.idx l (u.length:Int)=some x:=by rw[z];exact lY u x A
  have E:lW x=some x:=by
   unfold lW kO aP;unfold Ug at B;rw[app_small _ _ (by simp;omega),app_small _ _ (by simp;omega)];rfl
  simp only[C,D,E,aAe,cM];rw[app_small _ _ (by simp;omega),nxt (by omega)];exact⟨rfl,by simp[F]⟩
 ·intro acc _;simp only[dC,pF];rfl
end Go.PlFr
namespace Go.PlFr
open Go.Pl
open Go Go.Sw Go.Mo
theorem sub_drop{α:Type}(l:List α)(n:Nat)(h:n<=l.length):Sw.sub l (n:Int) (l.length:Int)=some (l.drop n):=by
 unfold Sw.sub;rw[aAn (by omega)];simp
theorem Uj{a c:Int}(h1:0<=a/\a<=2147483647)(h2:0<=c/\c<=2147483647):dH ((0:Int),[a,c],([]:List aQ))=0/\Good ((0:Int),[a,c],([]:List aQ)):=by
 have e:dH ((0:Int),[a,c],([]:List aQ))=0:=by
  unfold dH;simp[bad_no.2 h1,bad_no.2 h2]
 exact⟨e,rC e (fun b h=>by simp at h)⟩
end Go.PlFr
namespace Go.PlFr
open Go.Pl
open Go Go.Sw Go.Mo
def Az{A B:Type}(g:Nat->A->B->Option B):Nat->B->List A->Option B
 |_,acc,[]=>some acc
 |i,acc,x::l=>(g i x acc).bind fun h=>Az g (i+1) h l
theorem NX{α A B β γ:Type}{step:α->Option (Step α (Ex β γ))}{l:List A}{k:β->Option γ}(st:Nat->B->α)(I:Nat->B->Prop)(acc0:B)(g:Nat->A->B->Option B)(ex:Ex β γ)(fin:B->β)(hf:l.length<fI)(h0:I 0 acc0)
  (hs:∀pre x rest acc,l=pre++x::rest->I pre.length acc->step (st pre.length acc)=some (match g pre.length x acc with | some acc'=> .next (st (pre.length+1) acc') | none=> .done ex)/\∀acc',g pre.length x acc=some acc'->I (pre.length+1) acc')
  (he:∀acc,I l.length acc->step (st l.length acc)=some (.done (.brk (fin acc)))):
  lp step (st 0 acc0) k=(Az g 0 acc0 l).elim (out k ex) (fun acc=>k (fin acc))/\∀acc,Az g 0 acc0 l=some acc->I l.length acc:=by
 have E:∀(rest pre:List A) (f:Nat) (acc:B),l=pre++rest->rest.length<f->I pre.length acc->loop step f (st pre.length acc)=some ((Az g pre.length acc rest).elim ex (fun acc=> .brk (fin acc)))/\∀acc',Az g pre.length acc rest=some acc'->I l.length acc':=by
  intro rest
  induction rest with
  |nil=>
   intro pre f acc u hf z;obtain⟨f,rfl⟩:∃f',f=f'+1:=⟨f - 1,by simp at hf;omega⟩
   rw[aBa] at u;rw[<-u] at z ⊢;exact⟨by simp[loop,he acc z,Az],fun acc' h=>by simp only[Az,aAk] at h;rw[<-h];exact z⟩
  |cons x rest F=>
   intro pre f acc u hf z;obtain⟨f,rfl⟩:∃f',f=f'+1:=⟨f - 1,by simp at hf;omega⟩
   obtain⟨C,D⟩:=hs pre x rest acc u z;simp only[loop,C,Az];cases hg:g pre.length x acc with
   |none=>exact⟨by simp,fun acc' h=>by simp at h⟩
   |some acc'=>
    have:=F (pre++[x]) f acc' (by rw[u];simp) (by simp at hf;omega) (by simpa using D acc' hg);simpa using this
 obtain⟨C,D⟩:=E l [] fI acc0 rfl hf h0;refine⟨?_,D⟩;unfold lp;simp only[aA9] at C;rw[C];cases Az g 0 acc0 l with
 |none=>cases ex<;>rfl
 |some _=>rfl
def dataF(s:tI)(i:Nat)(f:eR):eR:=(1,[s.1,s.2.1+(i:Int),f.1]++f.2.1,f.2.2)
def Po(s:tI)(i:Nat)(f:eR)(acc:List (List Int)):Option (List (List Int)):=if s.2.1+(i:Int)>2147483647 then none else some (acc++[bC (dataF s i f)])
theorem load_frame{f:eR}(h:cZ f=0):dH f=0/\f.2.1.length<=9:=by
 unfold cZ at h;split at h
 ·rename_i u;refine⟨u,?_⟩;split at h
  ·simp at h
  ·omega
 ·exact absurd h (by assumption)
theorem data_good{s:tI}{i:Nat}{f:eR}(h1:0<=s.1/\s.1<=2147483647)(h2:0<=s.2.1)(hi:s.2.1+(i:Int)<=2147483647)(hf:cZ f=0)(hb:∀b∈f.2.2,b.length=8/\Bytes b):dH (dataF s i f)=0/\Good (dataF s i f):=by
 obtain⟨E,G⟩:=load_frame hf;have g:=rC E hb;have e:dH (dataF s i f)=0:=by
  have h:f.2.1.any vQ=false:=by
   rw[aEm];intro n D;have:=bad_no.2 (g.num n D);simp[this]
  have u:=bad_no.2 h1;have z:vQ (s.2.1+(i:Int))=false:=bad_no.2 ⟨by omega,hi⟩;have A:vQ f.1=false:=bad_no.2 ⟨g.s0,by have:=g.s1;omega⟩;have F:=g.bs;unfold dH dataF;have B:¬((1:Int)<0\/(1:Int)>15):=by omega
  have C:¬(([s.1,s.2.1+(i:Int),f.1]++f.2.1).length>12\/f.2.2.length>32):=by simp;omega
  simp only[B,C,aA4];simp[u,z,A,h]
 exact⟨e,rC e hb⟩
def SZ(s:tI):Prop:=∀f∈s.2.2,cZ f=0/\∀b∈f.2.2,b.length=8/\Bytes b
def Sb(s:tI):List eR:=s.2.2.take (min s.2.2.length 4)
theorem NY{s:tI}{pre rest:List eR}{x:eR}(h:Sb s=pre++x::rest):pre.length<min s.2.2.length 4/\s.2.2[pre.length]? =some x/\x∈s.2.2:=by
 have z:pre.length<min s.2.2.length 4:=by have:=congrArg List.length h;simp[Sb] at this;omega
 have u:(Sb s)[pre.length]? =some x:=by rw[h];simp
 unfold Sb at u;rw[List.getElem?_take,aAn z] at u;exact⟨z,u,aB7 u⟩
theorem LD(s:tI):(Sb s).length=min s.2.2.length 4:=by simp[Sb]
theorem Zu(s:tI)(h0:iU s=0)(hq:SZ s):nW s=(Az (Po s) 0 [] (Sb s)).elim (some ([],some 1)) (fun acc=>some (acc,none))/\
  ∀acc,Az (Po s) 0 [] (Sb s)=some acc->acc.length=(Sb s).length/\∀x∈acc,x.length<=1000000:=by
 obtain⟨O,P,S,T⟩:=Ji h0;unfold nW;rw[check_is,aAn h0,cM];have F:Sw.sub s.2.2 (0:Int) (min (s.2.2.length:Int) (4:Int))=some (Sb s):=by
  unfold Sw.sub Sb;rw[aAn (by omega)];simp;omega
 rw[F];simp only[aAa,pF,cM];refine NX (l:=Sb s) (fun (i:Nat) (acc:List (List Int))=>((i:Int),acc)) (fun i acc=>acc.length=i/\∀x∈acc,x.length<=1000000) [] (Po s) (.ret ([],some 1)) id (by rw[LD];unfold fI;omega) ⟨rfl,fun x B=>by simp at B⟩ ?_ ?_
 ·intro u x C acc h D;obtain⟨U,V,A⟩:=NY h;have G:cm .lss (u.length:Int) ((Sb s).length:Int)=true:=by rw[h];exact oC u x C
  have H:Sw.idx (Sb s) (u.length:Int)=some x:=by rw[h];exact lY u x C
  have I:ar .add .i64 s.2.1 (u.length:Int)=s.2.1+(u.length:Int):=addI (by omega);simp only[G,H,I,aAe,cM,cg,Po];by_cases c:s.2.1+(u.length:Int)>2147483647
  ·simp[c]
  ·obtain⟨Q,E⟩:=data_good (i:=u.length) O P.1 (by omega) (hq x A).1 (hq x A).2;have B:=load_frame (hq x A).1;have K:Sw.app ([s.1,s.2.1+(u.length:Int),x.1]:List Int) x.2.1=some ([s.1,s.2.1+(u.length:Int),x.1]++x.2.1):=app_small _ _ (by simp;omega);have L:lV ((1:Int),[s.1,s.2.1+(u.length:Int),x.1]++x.2.1,x.2.2)=some (bC (dataF s u.length x),none):=Dt E Q;have M:Sw.app acc [bC (dataF s u.length x)]=some (acc++[bC (dataF s u.length x)]):=app_small _ _ (by simp;omega);simp only[c,aA5,pF,aA4,K,L,M,cM,aAa];rw[nxt (by omega)];refine⟨rfl,fun R N=>?_⟩;cases N;refine⟨by simp[D.1],fun y z=>?_⟩;rcases aA0.1 z with z | z
   ·exact D.2 y z
   ·simp at z;subst z;exact Xc E
 ·intro acc _;simp only[dC,pF];rfl
end Go.PlFr
namespace Go.PlFr
open Go.Pl
open Go Go.Sw Go.Mo
theorem Xe{l:List eR}(h:∀f∈l,cZ f=0):tH l=none:=by
 unfold tH;rw[List.findSome?_eq_none_iff];intro f u;rw[aAn (h f u)]
variable {S M:Nat}
theorem packed_ne{f:eR}:bC f≠ []:=by unfold bC body Gu;simp
theorem Md{f:eR}:FH (bC f)=some ():=by
 unfold FH;rw[aAj];intro h;exact packed_ne (List.isEmpty_iff.1 h)
end Go.PlFr
namespace Go.PlTr
open Go.Pl
open Go Go.Sw Go.Mo
def Pp:Nat:=18446744073709551616
theorem Uk(n:Nat):IntKind.wrap .u64 (n:Int)=((n % Pp:Nat):Int):=by
 simp[IntKind.wrap,IntKind.signed,IntKind.bits,Pp]
theorem QN{a b:Nat}(ha:a<Pp)(hb:b<Pp):ar .xor .u64 (a:Int) (b:Int)=((a ^^^ b:Nat):Int):=by
 have h:a ^^^ b<2 ^ 64:=aCc (by simpa[Pp] using ha) (by simpa[Pp] using hb);show IntKind.wrap .u64 ((BitVec.ofInt 64 (a:Int) ^^^ BitVec.ofInt 64 (b:Int)).toNat:Int)=_;simp only[rA,aEr,aB8];rw[aA2 (by simpa[Pp] using ha),aA2 (by simpa[Pp] using hb),Uk,aA2 (by simpa[Pp] using h)]
theorem SL{a b:Nat}:ar .mul .u64 (a:Int) (b:Int)=((a*b % Pp:Nat):Int):=by
 show IntKind.wrap .u64 ((a:Int)*(b:Int))=_;rw[show (a:Int)*(b:Int)=((a*b:Nat):Int) from by push_cast;rfl,Uk]
def MR:Nat:=1099511628211
def QO(h b:Nat):Nat:=(h ^^^ b)*MR % Pp
theorem GX(h b:Nat):QO h b<Pp:=aCv _ (by decide)
def GY(l:List Int):Nat:=(nat l).foldl QO 14695981039346656037
theorem GZ(l:List Nat)(h:Nat)(hh:h<Pp):l.foldl QO h<Pp:=by
 induction l generalizing h with
 |nil=>exact hh
 |cons x l u=>exact u _ (GX _ _)
theorem Zv(l:List Int):GY l<Pp:=GZ _ _ (by decide)
theorem Pq{A B:Type}(f:B->A->B):∀(l:List A) (i:Nat) (b:B),(l.zipIdx i).foldl (fun acc x=>f acc x.1) b=l.foldl f b
 | [],_,_=>rfl
 |x::l,i,b=>by simp only[aCk,aA8];exact Pq f l (i+1) _
theorem Pr(l:List Int)(h:Bytes l)(hl:l.length<=1000000):pI l=some (GY l:Int):=by
 unfold pI;rw[show ((14695981039346656037:Int),(0:Int))=(fun (i:Nat) (r:Nat)=>((r:Int),(i:Int))) 0 14695981039346656037 from rfl];rw[lp_inv (l:=l) (fun (i:Nat) (r:Nat)=>((r:Int),(i:Int))) (fun _ r=>r<Pp) 14695981039346656037 (fun _ x r=>QO r x.toNat) (fun r=>(r:Int)) (by unfold fI;omega) (by decide)]
 ·rw[Pq (fun r (x:Int)=>QO r x.toNat)];simp only[GY,nat,List.foldl_map]
 ·rintro z x C r rfl A;have B:=h x (by simp);obtain⟨b,rfl⟩:∃b:Nat,x=(b:Int):=⟨x.toNat,by omega⟩
  have u:b<Pp:=by unfold Pp;omega
  refine⟨?_,GX _ _⟩;simp only[oC,aAe,lY,cM,QN A u];rw[show (1099511628211:Int)=((MR:Nat):Int) from rfl,SL,FR (n:=z.length) (m:=1000000) (by simp at hl;omega) (by omega)];rfl
 ·intro acc _;simp only[dC,pF]
def Vt(h:Int):List Int:=(List.range 8).map fun j=>((h.toNat / 2 ^ (56 - 8*j) % 256:Nat):Int)
theorem CE(h:Int):Bytes (Vt h):=by
 intro x u;simp only[Vt,aBn] at u;obtain⟨j,_,rfl⟩:=u;have:=aCv (h.toNat / 2 ^ (56 - 8*j)) (show 0<256 by decide);omega
theorem Kh(h:Int):(Vt h).length=8:=by simp[Vt]
def Ps(l:List Int):List Int:=1::l.flatMap Vt
theorem flat_bytes{A:Type}(f:A->List Int)(l:List A)(h:∀x∈l,Bytes (f x)):Bytes (l.flatMap f):=by
 intro y u;obtain⟨x,z,u⟩:=aD5.1 u;exact h x z y u
theorem Ul(l:List Int):Bytes (Ps l):=by
 intro y h;rcases aAo.1 h with rfl | h
 ·decide
 ·exact flat_bytes Vt l (fun x _=>CE x) y h
theorem HA{A:Type}(f:A->List Int)(m:Nat)(l:List A)(h:∀x∈l,(f x).length=m):(l.flatMap f).length=l.length*m:=by
 induction l with
 |nil=>simp
 |cons x l z=>
  rw[aEn,sM,h x (by simp),z (fun y u=>h y (by simp[u])),aAq,aBe,aCl,aCz]
theorem CF(l:List Int):(Ps l).length=1+l.length*8:=by
 rw[Ps,aAq,HA Vt 8 l (fun x _=>Kh x)];omega
def CG(l:List Int):Int:=(GY (Ps l):Int)
def U64(l:List Int):Prop:=∀x∈l,0<=x/\x<18446744073709551616
theorem NZ(l:List Int):0<=CG l/\CG l<18446744073709551616:=by
 have:=Zv (Ps l);unfold CG;unfold Pp at this;omega
theorem shru(n k:Nat)(hk:k<=64):sh .shr .u64 (n:Int) (k:Int)=((n / 2 ^ k:Nat):Int):=by
 show Int.fdiv _ _=_;have:min (k:Int).toNat (IntKind.bits .u64)=k:=by simp[IntKind.bits];omega
 rw[this];rw[aBj _ (by exact aEb (aEx (by decide)))]
 norm_cast
theorem LF(l:List Int)(hu:U64 l)(hl:l.length<=1000):sR l=some (CG l):=by
 unfold sR;rw[show ((0:Int),([(1:Int)]:List Int))=(fun (i:Nat) (r:List Int)=>((i:Int),r)) 0 [1] from rfl];rw[lp_inv (l:=l) (fun (i:Nat) (r:List Int)=>((i:Int),r)) (fun i r=>r.length<=1+8*i) [1] (fun _ x r=>r++Vt x) (fun r=>r) (by unfold fI;omega) (by simp)]
 ·rw[foldl_zipIdx Vt l 0 [1]];have: [1]++l.flatMap Vt=Ps l:=rfl;rw[this,Pr _ (Ul l) (by rw[CF];omega)];rfl
 ·rintro h x H r rfl I;have F:=hu x (by simp);obtain⟨b,rfl⟩:∃b:Nat,x=(b:Int):=⟨x.toNat,by omega⟩
  have G:h.length<=1000:=by simp at hl;omega
  refine⟨?_,by simp[Kh];omega⟩;simp only[oC,aAe,lY,cM];rw[show ((56:Int),r)=(fun i:Nat=>((56:Int) - 8*i,r++(Vt b).take i)) 0 from by simp];rw[Tj (fun i:Nat=>((56:Int) - 8*i,r++(Vt b).take i)) 8 (r++Vt b) (by unfold fI;omega)]
  ·rw[FR (n:=h.length) (m:=1000000) (by omega) (by omega)]
  ·intro i E;have u:((56:Int) - 8*(i:Int))=((56 - 8*i:Nat):Int):=by omega
   have z:cm .geq ((56:Int) - 8*(i:Int)) 0=true:=by unfold cm;simp;omega
   have A:nn ((56:Int) - 8*(i:Int))=some ():=by unfold nn;rw[aAn (by omega)]
   have B:ar .sub .i64 ((56:Int) - 8*(i:Int)) 8=(56:Int) - 8*((i+1:Nat):Int):=by
    show IntKind.wrap .i64 _=_;rw[wrap_i64 (by omega)];push_cast;omega
   have C:IntKind.wrap .u8 (sh .shr .u64 (b:Int) ((56:Int) - 8*(i:Int)))=((b / 2 ^ (56 - 8*i) % 256:Nat):Int):=by
    rw[u,shru _ _ (by omega)];simp[IntKind.wrap,IntKind.signed,IntKind.bits]
   have D:(Vt b).take (i+1)=(Vt b).take i++[((b / 2 ^ (56 - 8*i) % 256:Nat):Int)]:=by
    rw[List.take_add_one];congr 1;simp only[Vt];rw[aBl,List.getElem?_range E];simp
   simp only[z,aAe,A,cM,C];rw[app_small _ _ (by simp[Kh];omega),cM,B,D,aAm]
  ·have:cm .geq ((56:Int) - 8*((8:Nat):Int)) 0=false:=by decide
   simp only[this,pF];rw[aB0 (by rw[Kh];omega)]
 ·intro acc _;simp only[dC,pF]
def Um(l:List Int):List Int:=(Sw.chunks 4 l).map CG
theorem Xf{α:Type}{n:Nat}{xs c:List α}(h:c∈Sw.chunks n xs):∃k,c=(xs.drop (k*n)).take n:=by
 simp only[Sw.chunks,aBn] at h;obtain⟨k,_,rfl⟩:=h;exact⟨k,rfl⟩
theorem U64.sub{l c:List Int}(h:U64 l)(hs:∀x∈c,x∈l):U64 c:=fun x u=>h x (hs x u)
theorem Zw{l c:List Int}(h:U64 l)(hc:c∈Sw.chunks 4 l):U64 c/\c.length<=4:=by
 obtain⟨k,rfl⟩:=Xf hc;exact⟨h.sub fun x u=>aDp (aCo u),by simp;omega⟩
theorem Zx{ι α:Type}{f:ι->Option α}{g:ι->α}:∀(its:List ι) (acc:List α),(∀i∈its,f i=some (g i))->acc.length+its.length<=1000000->
  rng (δ:=Empty) (fun i acc=>(f i).bind fun v=>(Sw.app acc [v]).bind fun a=>some (.next a)) its acc=some (.brk (acc++its.map g))
 | [],acc,_,_=>by simp[rng]
 |i::is,acc,h,u=>by
  simp only[rng,h i (by simp),cM];rw[app_small _ _ (by simp at u ⊢;omega)];simp only[cM];rw[Zx is _ (fun j z=>h j (by simp[z])) (by simp at u ⊢;omega)];simp
theorem Ek{α:Type}(n:Nat)(xs:List α):(Sw.chunks n xs).length=(xs.length+n - 1) / n:=by simp[Sw.chunks]
theorem HB(l:List Int)(hu:U64 l)(hl:l.length<=1000):qY l=some (Um l):=by
 unfold qY gZ;have u:cm .lss (4:Int) 1=false:=by decide
 have z:small l=some ():=by unfold small;rw[aAn (by omega)]
 have A:chkn 4=some ():=by decide
 simp only[jp,u,pF,cM,z,A,rg];rw[show Int.toNat 4=4 from rfl];rw[Zx (f:=sR) (g:=CG) _ _ (fun c h=>LF c (Zw hu h).1 (by have:=(Zw hu h).2;omega)) (by rw[Ek];simp;omega)];simp[Um]
theorem QP{a b:Nat}:cm .lss (a:Int) (b:Int)=decide (a<b):=NN
theorem Rl(l:List Int):(Um l).length=(l.length+3) / 4:=by simp[Um,Ek]
theorem MS(l:List Int):U64 (Um l):=by
 intro x h;simp only[Um,aBn] at h;obtain⟨c,_,rfl⟩:=h;exact NZ c
def Xg:Nat->List Int->List (List Int)
 | 0,_=>[]
 |f+1,l=>if l.length<=1 then [] else Um l::Xg f (Um l)
theorem Rm{a b:Nat}:cm .gtr (a:Int) (b:Int)=decide (b<a):=by unfold cm;simp
theorem LG{ab:List Int->Option (List Int)}(hab:∀l,U64 l->l.length<=1000->ab l=some (Um l)):
  ∀(n f:Nat) (l:List Int) (acc:List (List Int)),U64 l->l.length<=n->n<=1000->n<f->acc.length+n<=2000->
   loop (fun (s:List Int×List (List Int))=>bif (cm .gtr (s.1.length:Int) (1:Int)) then (ab s.1).bind fun v=>(Sw.app s.2 [v]).bind fun a=>some (.next (v,a)) else (some (.done (.brk s.2)):Option (Step (List Int×List (List Int)) (Ex (List (List Int)) (List (List Int)×Option Int))))) f (l,acc)=some (.brk (acc++Xg n l))/\
   loop (fun (s:List Int×List (List Int))=>bif (cm .gtr (s.1.length:Int) (1:Int)) then (ab s.1).bind fun v=>(Sw.app s.2 [v]).bind fun a=>some (.next (v,a)) else (some (.done (.brk s.2)):Option (Step (List Int×List (List Int)) (Ex (List (List Int)) (List (List Int)))))) f (l,acc)=some (.brk (acc++Xg n l)):=by
 intro n
 induction n with
 |zero=>
  intro f l acc _ u _ z _;obtain⟨f,rfl⟩:∃f',f=f'+1:=⟨f - 1,by omega⟩
  have:cm .gtr (l.length:Int) 1=false:=by rw[show (1:Int)=((1:Nat):Int) from rfl,Rm];simp;omega
  simp[loop,this,Xg]
 |succ n D=>
  intro f l acc A u F z G;obtain⟨f,rfl⟩:∃f',f=f'+1:=⟨f - 1,by omega⟩
  by_cases h:l.length<=1
  ·have:cm .gtr (l.length:Int) 1=false:=by rw[show (1:Int)=((1:Nat):Int) from rfl,Rm];simp;omega
   simp[loop,this,Xg,h]
  ·have:cm .gtr (l.length:Int) 1=true:=by rw[show (1:Int)=((1:Nat):Int) from rfl,Rm];simp;omega
   have E:=Rl l;obtain⟨B,C⟩:=D f (Um l) (acc++[Um l]) (MS l) (by omega) (by omega) (by omega) (by simp;omega);simp only[loop,this,aAe,hab l A (by omega),cM,app_small acc [Um l] (by simp;omega),Xg,aAj h];rw[B,C];simp
def CH(b:aQ):Int:=(GY (0::b):Int)
def leaves(bs:List aQ):List Int:=bs.map CH
theorem Uo(bs:List aQ):U64 (leaves bs):=by
 intro x h;simp only[leaves,aBn] at h;obtain⟨b,_,rfl⟩:=h;have:=Zv (0::b);unfold CH;unfold Pp at this;omega
def tree(bs:List aQ):List (List Int):=leaves bs::Xg bs.length (leaves bs)
def SM(bs:List aQ):Prop:=∀b∈bs,b.length=8/\Bytes b
theorem LH{b:aQ}(h:b.length=8/\Bytes b):uY b=some (CH b):=by
 unfold uY;rw[app_small _ _ (by simp;omega),cM,Pr _ (by intro x u;simp at u;rcases u with rfl | u;decide;exact h.2 x u) (by simp;omega)];rfl
theorem foldl_map{A B:Type}(f:A->B):∀(l:List A) (i:Nat) (acc:List B),(l.zipIdx i).foldl (fun acc x=>acc++[f x.1]) acc=acc++l.map f
 | [],_,_=>by simp
 |x::l,i,acc=>by simp only[aCk,aA8];rw[foldl_map f l];simp
theorem of_is(bs:List aQ)(hb:SM bs)(hl:bs.length<=1000):yX bs=some (if bs.length<1\/bs.length>32 then ([],some 1) else (tree bs,none)):=by
 unfold yX;rw[show (1:Int)=((1:Nat):Int) from rfl,show (32:Int)=((32:Nat):Int) from rfl,QP,Rm];by_cases h:bs.length<1
 ·simp[h]
 ·by_cases u:bs.length>32
  ·have:(32<bs.length):=u;simp[h,this]
  ·have z:¬32<bs.length:=u;simp only[h,z,aA5,pF,cM];rw[show ((0:Int),([]:List Int))=(fun (i:Nat) (r:List Int)=>((i:Int),r)) 0 [] from rfl];rw[lp_inv (l:=bs) (fun (i:Nat) (r:List Int)=>((i:Int),r)) (fun i r=>r.length=i) [] (fun _ x r=>r++[CH x]) (fun r=>r) (by unfold fI;omega) rfl]
   ·rw[foldl_map CH bs 0 []];have A:=(LG (ab:=qY) HB bs.length fI (leaves bs) [leaves bs] (Uo bs) (by simp[leaves]) (by omega) (by unfold fI;omega) (by simp;omega)).1;rw[show []++bs.map CH=leaves bs from rfl];have B:((1:Nat):Int)=1:=rfl;simp only[B];unfold lp;rw[A];simp[tree]
   ·rintro C x E r rfl D;refine⟨?_,by simp[D]⟩;simp only[oC,aAe,lY,cM];rw[LH (hb x (by simp)),cM,app_small _ _ (by simp at hl ⊢;omega),cM,show ((1:Nat):Int)=1 from rfl,FR (n:=C.length) (m:=1000000) (by simp at hl;omega) (by omega)]
   ·intro acc _;simp only[dC,pF]
def Goes:List (List Int)->Prop
 | []=>False
 | [l]=>l.length=1
 |l::m::t=>1<l.length/\m=Um l/\Goes (m::t)
theorem Up:∀(n:Nat) (l:List Int),1<=l.length->l.length<=n->Goes (l::Xg n l)
 | 0,l,u,z=>by omega
 |n+1,l,u,z=>by
  simp only[Xg];by_cases h:l.length<=1
  ·simp[h,Goes];omega
  ·rw[aAj h];have:=Rl l;exact⟨by omega,rfl,Up n (Um l) (by omega) (by omega)⟩
theorem Zy:∀(n:Nat) (l:List Int),(Xg n l).length<=n
 | 0,l=>by simp[Xg]
 |n+1,l=>by
  simp only[Xg];split
  ·simp
  ·have:=Zy n (Um l);simp;omega
theorem Goes.at:∀{t:List (List Int)},Goes t->∀(pre rest:List (List Int)) (l:List Int),t=pre++l::rest->(rest=[]/\l.length=1)\/(∃m r,rest=m::r/\1<l.length/\m=Um l)
 | [],h,_,_,_,_=>h.elim
 | [l0],h,pre,rest,l,e=>by
  cases pre with
  |nil=>simp at e;obtain⟨rfl,rfl⟩:=e;exact .inl ⟨rfl,h⟩
  |cons p pre=>simp at e
 |l0::m0::t,h,pre,rest,l,e=>by
  cases pre with
  |nil=>simp at e;obtain⟨rfl,rfl⟩:=e;exact .inr ⟨m0,t,rfl,h.1,h.2.1⟩
  |cons p pre=>simp at e;exact Goes.at h.2.2 pre rest l e.2
theorem Goes.ne{t:List (List Int)}(h:Goes t):t≠ []:=by rintro rfl;exact h
theorem MT:∀(n:Nat) (l:List Int) (m:Nat),l.length<=m->∀x∈Xg n l,U64 x/\x.length<=m
 | 0,l,m,h,x,u=>by simp[Xg] at u
 |n+1,l,m,h,x,u=>by
  simp only[Xg] at u;split at u
  ·simp at u
  ·have z:=Rl l;rcases aAo.1 u with rfl | u
   ·exact⟨MS l,by omega⟩
   ·exact MT n (Um l) m (by omega) x u
theorem tree_all(bs:List aQ)(h:bs.length<=32):∀l∈tree bs,U64 l/\l.length<=32:=by
 intro l u;rcases aAo.1 u with rfl | u
 ·exact⟨Uo bs,by simp[leaves];omega⟩
 ·exact MT bs.length (leaves bs) 32 (by simp[leaves];omega) l u
theorem tree_len(bs:List aQ):(tree bs).length<=bs.length+1:=by
 have:=Zy bs.length (leaves bs);simp[tree];omega
theorem tree_goes(bs:List aQ)(h:1<=bs.length):Goes (tree bs):=Up _ _ (by simp[leaves];omega) (by simp[leaves])
end Go.PlTr
namespace Go.PlTf
open Go.Pl
open Go Go.Sw Go.Mo
end Go.PlTf
namespace Go.Mo
open Go Go.Sw
structure PS where
 n:Int
 fn:Int
 fnum:Int
 boots:Int
 blocks:(List aQ)
 epochs:(Int×(List (Int×aQ))×(List (Int×(List (Int×aQ))))×Bool)
 past:(List (Int×(List aQ)))
 session:Int
 sender:(Int×Int×(List (Int×(List Int)×(List aQ))))
 sent:Int
 safe:Int
 offered:(List Int)
 on:Int
 onum:Int
 oboots:Int
 first:Int
 receiver:(Int×Int)
 net:(List (Bool×Bool×(List Int)))
 fsn:Int
 fd:((List aQ)×(List (Int×aQ))×Int)
 osn:Int
 od:((List aQ)×(List (Int×aQ))×Int)
def kR(a1:Int)(a2:aQ)(s:PS):Option ((Option Int)×PS):=(eD a1 a2 s.n s.fn s.fnum s.boots s.blocks s.epochs s.past s.session s.sender s.sent s.safe s.offered s.on s.onum s.oboots s.first s.receiver s.net s.fsn s.fd s.osn s.od).bind fun v=>some (v.1,{ s with blocks:=v.2.1,epochs:=v.2.2 })
def nM(a1:Int)(s:PS):Option (aQ×(Option Int)×PS):=(fE a1 s.n s.fn s.fnum s.boots s.blocks s.epochs s.past s.session s.sender s.sent s.safe s.offered s.on s.onum s.oboots s.first s.receiver s.net s.fsn s.fd s.osn s.od).bind fun v=>some (v.1,v.2,s)
def pR(s:PS):Option ((Option Int)×PS):=(fA s.n s.fn s.fnum s.boots s.blocks s.epochs s.past s.session s.sender s.sent s.safe s.offered s.on s.onum s.oboots s.first s.receiver s.net s.fsn s.fd s.osn s.od).bind fun v=>some (v.1,{ s with fnum:=v.2.1,epochs:=v.2.2.1,past:=v.2.2.2.1,fsn:=v.2.2.2.2.1,fd:=v.2.2.2.2.2 })
def lG(s:PS):Option ((Option Int)×PS):=(dS s.n s.fn s.fnum s.boots s.blocks s.epochs s.past s.session s.sender s.sent s.safe s.offered s.on s.onum s.oboots s.first s.receiver s.net s.fsn s.fd s.osn s.od).bind fun v=>some (v.1,{ s with sender:=v.2.1,sent:=v.2.2.1,offered:=v.2.2.2.1,net:=v.2.2.2.2 })
def iX(a1:Int)(s:PS):Option (Int×Bool×PS):=(bP a1 s.n s.fn s.fnum s.boots s.blocks s.epochs s.past s.session s.sender s.sent s.safe s.offered s.on s.onum s.oboots s.first s.receiver s.net s.fsn s.fd s.osn s.od).bind fun v=>some (v.1,v.2,s)
def rE(a1:(Int×(List Int)×(List aQ)))(s:PS):Option ((Option Int)×PS):=(eN a1 s.n s.fn s.fnum s.boots s.blocks s.epochs s.past s.session s.sender s.sent s.safe s.offered s.on s.onum s.oboots s.first s.receiver s.net s.fsn s.fd s.osn s.od).bind fun v=>some (v.1,{ s with onum:=v.2.1,osn:=v.2.2.1,od:=v.2.2.2 })
def dP(a1:(List Int))(s:PS):Option ((Option Int)×PS):=(bW a1 s.n s.fn s.fnum s.boots s.blocks s.epochs s.past s.session s.sender s.sent s.safe s.offered s.on s.onum s.oboots s.first s.receiver s.net s.fsn s.fd s.osn s.od).bind fun v=>some (v.1,{ s with onum:=v.2.1,first:=v.2.2.1,receiver:=v.2.2.2.1,net:=v.2.2.2.2.1,osn:=v.2.2.2.2.2.1,od:=v.2.2.2.2.2.2 })
def eE(a1:(List Int))(s:PS):Option ((Option Int)×PS):=(cC a1 s.n s.fn s.fnum s.boots s.blocks s.epochs s.past s.session s.sender s.sent s.safe s.offered s.on s.onum s.oboots s.first s.receiver s.net s.fsn s.fd s.osn s.od).bind fun v=>some (v.1,{ s with epochs:=v.2.1,session:=v.2.2.1,sender:=v.2.2.2.1,sent:=v.2.2.2.2.1,safe:=v.2.2.2.2.2.1,offered:=v.2.2.2.2.2.2 })
def tJ(a1:(Bool×Bool×(List Int)))(s:PS):Option ((Option Int)×PS):=(fF a1 s.n s.fn s.fnum s.boots s.blocks s.epochs s.past s.session s.sender s.sent s.safe s.offered s.on s.onum s.oboots s.first s.receiver s.net s.fsn s.fd s.osn s.od).bind fun v=>some (v.1,{ s with epochs:=v.2.1,session:=v.2.2.1,sender:=v.2.2.2.1,sent:=v.2.2.2.2.1,safe:=v.2.2.2.2.2.1,offered:=v.2.2.2.2.2.2.1,onum:=v.2.2.2.2.2.2.2.1,first:=v.2.2.2.2.2.2.2.2.1,receiver:=v.2.2.2.2.2.2.2.2.2.1,net:=v.2.2.2.2.2.2.2.2.2.2.1,osn:=v.2.2.2.2.2.2.2.2.2.2.2.1,od:=v.2.2.2.2.2.2.2.2.2.2.2.2 })
def mB(a1:Int)(s:PS):Option ((Option Int)×PS):=(eH a1 s.n s.fn s.fnum s.boots s.blocks s.epochs s.past s.session s.sender s.sent s.safe s.offered s.on s.onum s.oboots s.first s.receiver s.net s.fsn s.fd s.osn s.od).bind fun v=>some (v.1,{ s with epochs:=v.2.1,session:=v.2.2.1,sender:=v.2.2.2.1,sent:=v.2.2.2.2.1,safe:=v.2.2.2.2.2.1,offered:=v.2.2.2.2.2.2.1,onum:=v.2.2.2.2.2.2.2.1,first:=v.2.2.2.2.2.2.2.2.1,receiver:=v.2.2.2.2.2.2.2.2.2.1,net:=v.2.2.2.2.2.2.2.2.2.2.1,osn:=v.2.2.2.2.2.2.2.2.2.2.2.1,od:=v.2.2.2.2.2.2.2.2.2.2.2.2 })
def qI(a1:Int)(s:PS):Option ((Option Int)×PS):=(fG a1 s.n s.fn s.fnum s.boots s.blocks s.epochs s.past s.session s.sender s.sent s.safe s.offered s.on s.onum s.oboots s.first s.receiver s.net s.fsn s.fd s.osn s.od).bind fun v=>some (v.1,{ s with net:=v.2 })
def kS(a1:Int)(s:PS):Option ((Option Int)×PS):=(dU a1 s.n s.fn s.fnum s.boots s.blocks s.epochs s.past s.session s.sender s.sent s.safe s.offered s.on s.onum s.oboots s.first s.receiver s.net s.fsn s.fd s.osn s.od).bind fun v=>some (v.1,{ s with net:=v.2 })
def kT(a1:(Int×Int×Int×aQ))(s:PS):Option ((Option Int)×PS):=(dV a1 s.n s.fn s.fnum s.boots s.blocks s.epochs s.past s.session s.sender s.sent s.safe s.offered s.on s.onum s.oboots s.first s.receiver s.net s.fsn s.fd s.osn s.od).bind fun v=>some (v.1,{ s with net:=v.2 })
def tK(a1:(Int×aQ×Int×Int×Int×(List aQ)))(s:PS):Option ((Int×aQ×Int×Int×Int×(List aQ))×(Option Int)×PS):=(fH a1 s.n s.fn s.fnum s.boots s.blocks s.epochs s.past s.session s.sender s.sent s.safe s.offered s.on s.onum s.oboots s.first s.receiver s.net s.fsn s.fd s.osn s.od).bind fun v=>some (v.1,v.2,s)
def mC(a1:(Int×Int×Int×aQ))(s:PS):Option ((Int×aQ×Int×Int×Int×(List aQ))×(Option Int)×PS):=(gP a1 s.n s.fn s.fnum s.boots s.blocks s.epochs s.past s.session s.sender s.sent s.safe s.offered s.on s.onum s.oboots s.first s.receiver s.net s.fsn s.fd s.osn s.od).bind fun v=>some (v.1,v.2.1,{ s with n:=v.2.2.1,fn:=v.2.2.2.1,fnum:=v.2.2.2.2.1,boots:=v.2.2.2.2.2.1,blocks:=v.2.2.2.2.2.2.1,epochs:=v.2.2.2.2.2.2.2.1,past:=v.2.2.2.2.2.2.2.2.1,session:=v.2.2.2.2.2.2.2.2.2.1,sender:=v.2.2.2.2.2.2.2.2.2.2.1,sent:=v.2.2.2.2.2.2.2.2.2.2.2.1,safe:=v.2.2.2.2.2.2.2.2.2.2.2.2.1,offered:=v.2.2.2.2.2.2.2.2.2.2.2.2.2.1,on:=v.2.2.2.2.2.2.2.2.2.2.2.2.2.2.1,onum:=v.2.2.2.2.2.2.2.2.2.2.2.2.2.2.2.1,oboots:=v.2.2.2.2.2.2.2.2.2.2.2.2.2.2.2.2.1,first:=v.2.2.2.2.2.2.2.2.2.2.2.2.2.2.2.2.2.1,receiver:=v.2.2.2.2.2.2.2.2.2.2.2.2.2.2.2.2.2.2.1,net:=v.2.2.2.2.2.2.2.2.2.2.2.2.2.2.2.2.2.2.2.1,fsn:=v.2.2.2.2.2.2.2.2.2.2.2.2.2.2.2.2.2.2.2.2.1,fd:=v.2.2.2.2.2.2.2.2.2.2.2.2.2.2.2.2.2.2.2.2.2.1,osn:=v.2.2.2.2.2.2.2.2.2.2.2.2.2.2.2.2.2.2.2.2.2.2.1,od:=v.2.2.2.2.2.2.2.2.2.2.2.2.2.2.2.2.2.2.2.2.2.2.2 })
end Go.Mo
namespace Go.PlFr
open Go Go.Sw Go.Mo Go.Pl
theorem Xh{a b c:Nat}(h:a ^^^ c=b ^^^ c):a=b:=by
 have:=congrArg (·^^^ c) h;simpa[Nat.xor_assoc] using this
theorem OA{a b c:Nat}(h:c ^^^ a=c ^^^ b):a=b:=by
 rw[Nat.xor_comm c a,Nat.xor_comm c b] at h;exact Xh h
theorem HC{a b:Nat}(ha:a<4294967296)(hb:b<4294967296)(h:Xb a=Xb b):a=b:=by
 have top:∀x:Nat,x<2147483648->2147483648<=x ^^^ Rh:=by
  intro x B;have z:(x ^^^ Rh) / 2 ^ 31 % 2=(x / 2 ^ 31+Rh / 2 ^ 31) % 2:=KG x Rh 31;have u:x / 2 ^ 31=0:=Nat.div_eq_of_lt (by simpa using B);have A:Rh / 2 ^ 31=1:=by decide
  rw[u,A] at z;omega
 unfold Xb at h;by_cases z:a % 2=1
 ·by_cases u:b % 2=1
  ·rw[aAn z,aAn u] at h;have:=Xh h;omega
  ·rw[aAn z,aAj u] at h;have:=top (a / 2) (by omega);omega
 ·by_cases u:b % 2=1
  ·rw[aAj z,aAn u] at h;have:=top (b / 2) (by omega);omega
  ·rw[aAj z,aAj u] at h;omega
theorem Me:∀(n:Nat) {a b:Nat},a<4294967296->b<4294967296->Nr n a=Nr n b->a=b
 | 0,_,_,_,_,h=>h
 |n+1,_,_,u,z,h=>Me n u z (HC (Kg u) (Kg z) h)
theorem RJ{r b:Nat}(hr:r<4294967296)(hb:b<256):r ^^^ b<4294967296:=by
 have:r ^^^ b<2 ^ 32:=aCc (by simpa using hr) (by omega);simpa using this
theorem CI{r r' b:Nat}(hr:r<4294967296)(hr':r'<4294967296)(hb:b<256)(h:zB r b=zB r' b):r=r':=
 Xh (Me 8 (RJ hr hb) (RJ hr' hb) h)
theorem CJ{r b b':Nat}(hr:r<4294967296)(hb:b<256)(hb':b'<256)(h:zB r b=zB r b'):b=b':=
 OA (Me 8 (RJ hr hb) (RJ hr hb') h)
theorem Uq:∀(l:List Nat) {r r':Nat},r<4294967296->r'<4294967296->(∀b∈l,b<256)->l.foldl zB r=l.foldl zB r'->r=r'
 | [],_,_,_,_,_,h=>h
 |b::l,_,_,z,A,u,h=>CI z A (u b (by simp)) (Uq l (Aq z (u b (by simp))) (Aq A (u b (by simp))) (fun c B=>u c (by simp[B])) h)
theorem LI{l:List Nat}{k v:Nat}(hl:∀b∈l,b<256)(hk:k<l.length)(hv:v<256)(hne:l[k]≠v):zC (l.set k v)≠zC l:=by
 intro h;have C:l=l.take k++l[k]::l.drop (k+1):=by rw[<-aCy hk,aAt]
 have D:l.set k v=l.take k++v::l.drop (k+1):=by rw[aDv,aAn hk]
 unfold zC at h;rw[D] at h;have A:(l.take k++v::l.drop (k+1)).foldl zB 4294967295=(l.take k++l[k]::l.drop (k+1)).foldl zB 4294967295:=by rw[<-C];exact h
 rw[aC5,aC5,aA8,aA8] at A;have u:=Gs (l.take k) 4294967295 (by decide) (fun b z=>hl b (aCo z));have B:l[k]<256:=hl _ (aBk hk);have E:=Uq (l.drop (k+1)) (Aq u hv) (Aq u B) (fun b z=>hl b (aDp z)) A;exact hne (CJ u hv B E).symm
theorem HD{a b:Nat}(ha:a<4294967296)(hb:b<4294967296)(h:sum4 a=sum4 b):a=b:=by
 simp only[sum4,aEw,and_true] at h;omega
theorem Zz{l:List Int}(h:Bytes l):zC (nat l)<4294967296:=Gs _ _ (by decide) (Gt h)
theorem torn{f:eR}(g:Good f){k:Nat}{v:Int}(hk:k<(bC f).length)(hv:0<=v/\v<=255)(hne:(bC f)[k]≠v)(hb:Bytes ((bC f).set k v)):eP ((bC f).set k v)=none:=by
 cases hf:eP ((bC f).set k v) with
 |none=>rfl
 |some x=>
  exfalso;obtain⟨N,_,h⟩:=Fk hb hf;have E:(body x).length=(body f).length:=by
   have:=congrArg List.length h;simp[bC,sum4] at this;omega
  have A:=(qH g).1;have H:=(qH N).1;have O:=Zz A;have P:=Zz H;by_cases u:k<(body f).length
  ·have e:(bC f).set k v=(body f).set k v++sum4 (4294967295 - zC (nat (body f))):=by unfold bC;rw[List.set_append_left _ _ u]
   rw[e] at h;unfold bC at h;obtain⟨D,z⟩:=List.append_inj h (by simp[E]);have Q:=HD (by omega) (by omega) z;have B:zC (nat (body x))=zC (nat (body f)):=by omega
   rw[D] at B;have I:nat ((body f).set k v)=(nat (body f)).set k v.toNat:=by unfold nat;rw[List.map_set]
   rw[I] at B;have K:k<(nat (body f)).length:=by simpa[nat] using u
   refine LI (Gt A) K (by omega) ?_ B;intro M;have L:(nat (body f))[k]=((body f)[k]).toNat:=by simp[nat]
   have C:(bC f)[k]=(body f)[k]:=by simp only[bC];rw[aC7 u]
   have:=A _ (aBk u);rw[L] at M;rw[C] at hne;omega
  ·have e:(bC f).set k v=body f++(sum4 (4294967295 - zC (nat (body f)))).set (k - (body f).length) v:=by unfold bC;rw[List.set_append_right _ _ (by omega)]
   rw[e] at h;unfold bC at h;obtain⟨D,z⟩:=List.append_inj h E;rw[D] at z;have F:k - (body f).length<(sum4 (4294967295 - zC (nat (body f)))).length:=by
    have:(bC f).length=(body f).length+(sum4 (4294967295 - zC (nat (body f)))).length:=by simp[bC]
    omega
   have C:(bC f)[k]=(sum4 (4294967295 - zC (nat (body f))))[k - (body f).length]:=by simp only[bC];rw[List.getElem_append_right (by omega)]
   have G:(sum4 (4294967295 - zC (nat (body f))))[k - (body f).length]? =some v:=by rw[z,aB1 F]
   rw[aAg F,aAk] at G;exact hne (by rw[C,G])
theorem xor8{a b:Int}(ha:0<=a/\a<=255)(hb:0<=b/\b<=255):ar .xor .u8 a b=((a.toNat ^^^ b.toNat:Nat):Int):=by
 have u:((a.toNat:Nat):Int)=a:=by omega
 have z:((b.toNat:Nat):Int)=b:=by omega
 have h:a.toNat ^^^ b.toNat<2 ^ 8:=aCc (by omega) (by omega);show IntKind.wrap .u8 ((BitVec.ofInt 8 a ^^^ BitVec.ofInt 8 b).toNat:Int)=_;rw[<-u,<-z];simp only[rA,aEr,aB8,aAf];rw[aA2 (a:=a.toNat) (by omega),aA2 (a:=b.toNat) (by omega),Zq (by omega)]
end Go.PlFr
namespace Go.PlFr
open Go Go.Sw Go.Mo Go.Pl
def Fl(s:tI):Option eR->tI
 |none=>s
 |some f=>if f.1=0/\f.2.2=[]/\f.2.1.length=2/\f.2.1.getD 0 0=s.1/\s.2.1<f.2.1.getD 1 0/\f.2.1.getD 1 0 - s.2.1<=min (s.2.2.length:Int) 4 then (s.1,f.2.1.getD 1 0,s.2.2.drop (f.2.1.getD 1 0 - s.2.1).toNat) else s
theorem zE(s:tI)(b:List Int)(hb:Bytes b)(hl:b.length<=2000)(h0:iU s=0):qZ s b=some (Fl s (eP b),none):=by
 obtain⟨X,q2,S,T⟩:=Ji h0;unfold qZ;rw[check_is,aAn h0,cM,Ui _ S T,rD b hb (by omega)];simp only[aAa,pF,cM];cases hf:eP b with
 |none=>simp[Fl]
 |some f=>
  obtain⟨g,_,_⟩:=Fk hb hf;simp only[aAa,pF,cn,cg,Fl];by_cases u:¬(f.1=0)
  ·simp[u]
  have u:=aC6.1 u;by_cases z:¬((f.2.1.length:Int)=2)
  ·have F:f.2.1.length≠2:=fun h=>z (by omega);simp[u,z,F]
  have z:=aC6.1 z;by_cases U:(f.2.2.length:Int)>0
  ·have C:f.2.2≠ []:=aBr.1 (by omega);have G:0<f.2.2.length:=by omega
   simp[u,z,G,C]
  have C:f.2.2=[]:=aAu (by omega);obtain⟨n0,n1,E⟩:∃n0 n1,f.2.1=[n0,n1]:=by
   match hm:f.2.1,z with
   | [a,c],_=>exact⟨a,c,rfl⟩
   | [],c=>simp at c
   | [_],c=>simp at c
   |_::_::_::_,c=>simp at c;omega
  have H:Sw.idx [n0,n1] (0:Int)=some n0:=by simp[Sw.idx]
  have I:Sw.idx [n0,n1] (1:Int)=some n1:=by simp[Sw.idx]
  have V:0<=n1/\n1<=2147483647:=g.num n1 (by rw[E];simp);have K:((2:Nat):Int)=2:=rfl;have L:(([]:List aQ).length:Int)=0:=rfl;have M:([n0,n1]:List Int).getD 0 0=n0:=rfl;have N:([n0,n1]:List Int).getD 1 0=n1:=rfl;have O:([n0,n1]:List Int).length=2:=rfl;simp only[u,C,E,H,I,K,L,M,N,O,ne_eq,aEz,aA5,pF,cM,aEy];rw[show decide ((0:Int)>0)=false from rfl];simp only[pF,cM];by_cases A:¬(n0=s.1)
  ·simp[A]
  have A:=aC6.1 A;have P:ar .sub .i64 n1 s.2.1=n1 - s.2.1:=subI (by omega);simp only[A,aEz,aA5,pF,P,cle,jp,aEy];by_cases B:s.2.1<n1/\n1 - s.2.1<=min (s.2.2.length:Int) 4
  ·have Q:n1 - s.2.1=((n1 - s.2.1).toNat:Int):=by omega
   rw[aAs (show n1 - s.2.1>0 by omega),aAe,aAs B.2,cM,aAe,aAn B];rw[Q,sub_drop _ _ (by omega),cM,aAf]
  ·have R:(bif decide (n1 - s.2.1>0) then some (decide (n1 - s.2.1<=min (s.2.2.length:Int) 4)) else some false)=some false:=by
    by_cases D:n1 - s.2.1>0
    ·rw[aAs D,aAc (fun h=>B ⟨by omega,h⟩)];rfl
    ·rw[aAc D];rfl
   rw[R,cM,pF,aAj B]
def Gv(r:Int×Int):Option eR->(Int×Int)×eR×Bool×(Bool×List Int)
 |none=>(r,(0,[],[]),false,(true,[]))
 |some f=>if f.1=1/\3<=f.2.1.length/\f.2.1.getD 0 0=r.1/\f.2.1.getD 2 0<=15 then
   (if f.2.1.getD 1 0=r.2/\r.2<2147483647 then ((r.1,r.2+1),(f.2.1.getD 2 0,f.2.1.drop 3,f.2.2),true,(false,bC ((0:Int),[r.1,r.2+1],([]:List aQ))))
   else (r,(0,[],[]),false,(false,bC ((0:Int),[r.1,r.2],([]:List aQ)))))
  else (r,(0,[],[]),false,(true,[]))
theorem Mf(r:Int×Int)(b:List Int)(hb:Bytes b)(hl:b.length<=2000)(h1:0<=r.1/\r.1<=2147483647)(h2:0<=r.2/\r.2<=2147483647):
  nH r b=some ((Gv r (eP b)).1,(Gv r (eP b)).2.1,(Gv r (eP b)).2.2.1,(Gv r (eP b)).2.2.2,none):=by
 unfold nH;rw[number_is,bad_no.2 h1,bad_no.2 h2,rD b hb (by omega)];simp only[Bool.or_self,aCg,aBz,pF,cM];cases hf:eP b with
 |none=>simp[Gv]
 |some f=>
  obtain⟨g,_,_⟩:=Fk hb hf;simp only[aAa,pF,cn,cg,cl,Gv];by_cases u:¬(f.1=1)
  ·simp[u]
  have u:=aC6.1 u;by_cases A:(f.2.1.length:Int)<3
  ·have G:¬3<=f.2.1.length:=by omega
   simp[u,A,G]
  obtain⟨n0,n1,n2,ns,F⟩:∃n0 n1 n2 ns,f.2.1=n0::n1::n2::ns:=by
   match hm:f.2.1,A with
   |a::c::d::e,_=>exact⟨a,c,d,e,rfl⟩
   | [],c=>simp at c
   | [_],c=>simp at c
   | [_,_],c=>simp at c
  have H:Sw.idx (n0::n1::n2::ns) (0:Int)=some n0:=by simp[Sw.idx]
  have I:Sw.idx (n0::n1::n2::ns) (1:Int)=some n1:=by simp[Sw.idx]
  have K:Sw.idx (n0::n1::n2::ns) (2:Int)=some n2:=by simp[Sw.idx]
  have L:Sw.sub (n0::n1::n2::ns) (3:Int) ((n0::n1::n2::ns).length:Int)=some ns:=sub_drop (n0::n1::n2::ns) 3 (by simp);have M:(n0::n1::n2::ns).getD 0 0=n0:=rfl;have N:(n0::n1::n2::ns).getD 1 0=n1:=rfl;have O:(n0::n1::n2::ns).getD 2 0=n2:=rfl;have P:(n0::n1::n2::ns).drop 3=ns:=rfl;have Q:3<=(n0::n1::n2::ns).length:=by simp
  rw[F] at A;simp only[u,A,F,H,I,K,L,M,N,O,P,Q,ne_eq,aEz,aA5,pF,cM,aEy];by_cases z:¬(n0=r.1)
  ·simp[z]
  have z:=aC6.1 z;by_cases E:n2>15
  ·have:¬n2<=15:=by omega
   simp[z,E,this]
  have R:n2<=15:=by omega
  simp only[z,E,R,aEz,aA5,pF,cM,ce,jp,aEy,aBb];by_cases B:n1=r.2/\r.2<2147483647
  ·have S:ar .add .i64 r.2 1=r.2+1:=addI (by omega);obtain⟨e,D⟩:=Uj h1 (c:=r.2+1) (by omega);simp only[B.1,B.2,aB9,aAe,cM,S,Dt D e,Md,and_self,aBb]
  ·obtain⟨e,D⟩:=Uj h1 h2;have T:(bif decide (n1=r.2) then some (decide (r.2<2147483647)) else some false)=some false:=by
    by_cases C:n1=r.2
    ·have:¬r.2<2147483647:=fun h=>B ⟨C,h⟩;simp[C,this]
    ·simp[C]
   rw[T,aAj B];simp only[pF,cM,Dt D e,Md]
theorem Ie{S q:Int}(h0:iU (S,q,[])=0):nW (S,q,[])=some ([],none):=by
 have h:Sb (S,q,[])=[]:=by simp[Sb]
 have:=(Zu (S,q,[]) h0 (fun f u=>by simp at u)).1;rw[this,h];rfl
theorem Mg{S q:Int}{m:eR}(h0:iU (S,q,[m])=0)(hq:q<=2147483647)(hm:cZ m=0)(hb:∀b∈m.2.2,b.length=8/\Bytes b):
  nW (S,q,[m])=some ([bC (dataF (S,q,[m]) 0 m)],none):=by
 have u:Sb (S,q,[m])=[m]:=by simp[Sb]
 have:=(Zu (S,q,[m]) h0 (fun f h=>by simp at h;subst h;exact⟨hm,hb⟩)).1;rw[this,u];have z:Po (S,q,[m]) 0 m []=some [bC (dataF (S,q,[m]) 0 m)]:=by
  unfold Po;rw[aAj (by simp;omega)];rfl
 simp[Az,z]
theorem mD{S q:Int}{l:List eR}(hS:0<=S/\S<=2147483647)(hq:0<=q/\q<=2147483647)(hl:l.length<=64)(h:∀f∈l,cZ f=0):iU (S,q,l)=0:=by
 unfold iU;rw[bad_no.2 hS,bad_no.2 hq];simp only[Bool.or_self,aAw,aA4];rw[aAj (by omega),Xe h];rfl
theorem Ig{S q:Int}{m:eR}(hS:0<=S/\S<=2147483647)(hq:0<=q/\q<2147483647)(hm:cZ m=0):tD (S,q,[]) m=some ((S,q,[m]),none):=by
 have z:iU (S,q,[])=0:=mD hS ⟨hq.1,by omega⟩ (by simp) (fun f h=>by simp at h);unfold tD;rw[check_is,aAn z,cM];simp only[aAa,pF];rw[Zt,aAn hm,cM];have A:ar .add .i64 q (([]:List eR).length:Int)=q:=by rw[addI (by simp;omega)];simp
 have u:=Uh hm;have B:lW m=some m:=by
  unfold lW kO aP;rw[app_small _ _ (by have:=u.1;simp;omega),app_small _ _ (by have:=u.2;simp;omega)];rfl
 simp only[aAa,pF,A,ce,cge];rw[show decide ((([]:List eR).length:Int)=64)=false from rfl,aAc (show¬(q>=2147483647) by omega)];simp only[pF,cM];rw[Ui [] (by simp) (fun f h=>by simp at h)];simp only[cM,B,Sw.app,aA9,aAq,aBd];rfl
end Go.PlFr
namespace Go.PlMi
open Go Go.Sw Go.Mo Go.Pl Go.PlSt
variable {d:lE}{blocks:List aQ}{a b n:Nat}
theorem LJ(h:nL d blocks a b)(h0:1<=blocks.length)(h1:blocks.length<=32)(ha:a<=2147483647)(hb:b+1<=2147483647):
  ∃d',cG (blocks.length:Int) d [] (a:Int) (ar .add .i64 (b:Int) (1:Int))=some (none,(blocks.length:Int),d')/\nL d' blocks a (b+1):=by
 rw[nxt (by omega)];have A:To blocks.length [] (a:Int) ((b+1:Nat):Int)=0:=by
  unfold To;rw[aAj (by simp),aAj (by omega)];rfl
 obtain⟨d',x',y',u,z,_,_,_,e,s⟩:=xT h h0 h1 [] _ _ A;have u:a=x':=by omega
 have z:b+1=y':=by omega
 subst u z;exact⟨d',e,s⟩
theorem Ur(h:nL d blocks a b)(h0:1<=blocks.length)(h1:blocks.length<=32)(ha:a<=2147483647)(hb:b+1<=2147483647):∃d',nL d' blocks a (b+1)/\
  (∀b0 b1 b2 b3 b4 b5 b6 b7 b8 b9 b10 b11 b12 b13 b14 b15 b16 b17,iN b0 b1 b2 b3 b4 b5 b6 b7 b8 b9 b10 b11 b12 b13 b14 b15 b16 b17 (blocks.length:Int) d=some (none,(a:Int),((b+1:Nat):Int),(blocks.length:Int),d'))/\
  (∀b0 b1 b2 b3 b4 b5 b6 b7 b8 b9 b10 b11 b12 b13 b14 b15 b16 b17 b18 b19,fP b0 b1 b2 b3 b4 b5 b6 b7 b8 b9 b10 b11 b12 b13 b14 b15 b16 b17 b18 b19 (blocks.length:Int) d=some (none,(a:Int),((b+1:Nat):Int),(blocks.length:Int),d'))/\
  (∀b0 b1 b2 b3 b4 b5 b6 b7 b8 b9 b10 b11 b12 b13 b14 b15 b16 b17 b18 b19,iF b0 b1 b2 b3 b4 b5 b6 b7 b8 b9 b10 b11 b12 b13 b14 b15 b16 b17 b18 b19 (blocks.length:Int) d=some (none,(a:Int),((b+1:Nat):Int),(blocks.length:Int),d')):=by
 obtain⟨d',e,s⟩:=LJ h h0 h1 ha hb;have z:=Wx h ha (by omega);have u:ar .add .i64 (b:Int) (1:Int)=((b+1:Nat):Int):=nxt (by omega);rw[u] at e;refine⟨d',s,?_,?_,?_⟩<;>intros
 ·unfold iN;rw[z,cM];simp only[aAa,pF,u,e,cM]
 ·unfold fP;rw[z,cM];simp only[aAa,pF,u,e,cM]
 ·unfold iF;rw[z,cM];simp only[aAa,pF,u,e,cM]
theorem Us(h:nL d blocks a b)(h0:1<=blocks.length)(h1:blocks.length<=32):gR (blocks.length:Int) d (blocks.length:Int)=some (some ((blocks.length:Int),d),none,(blocks.length:Int),d):=by
 unfold gR;rw[KN h,cM,Pc h h0 h1];rfl
theorem HE(h0:1<=n)(h1:n<=32):iL (n:Int)=some (some ((n:Int),fresh n),none):=by
 unfold iL;rw[BX h0 h1,cM];have:=Pc (Lv h1) (by simpa using h0) (by simpa using h1);simp only[aBi] at this;simp only[aAa,pF,this,cM];rfl
def oH(past:List (Int×List aQ))(num:Int)(blocks:List aQ):List (Int×List aQ):=Fa ((Ga past num blocks).getD []) (num - 5)
theorem Jj(past:List (Int×List aQ))(num:Nat)(hl:blocks.length<=1000)(hn:num<=2147483647)(hp:(Ga past (num:Int) blocks).isSome=true):
  (∀b0 b1 b3 b5 b7 b8 b9 b10 b11 b12 b13 b14 b15 b16 b17 b18 b19,eW b0 b1 (num:Int) b3 blocks b5 past b7 b8 b9 b10 b11 b12 b13 b14 b15 b16 b17 b18 b19=some (oH past num blocks))/\
  (∀b0 b1 b3 b5 b7 b8 b9 b10 b11 b12 b13 b14 b15 b16 b17 b18 b19 b20 b21,dT b0 b1 (num:Int) b3 blocks b5 past b7 b8 b9 b10 b11 b12 b13 b14 b15 b16 b17 b18 b19 b20 b21=some (oH past num blocks)):=by
 obtain⟨q,B⟩:=Option.isSome_iff_exists.1 hp;have h:ar .sub .i64 (num:Int) 4=(num:Int) - 4:=subI (by omega);have u:ar .sub .i64 ((num:Int) - 4) 1=(num:Int) - 4 - 1:=subI (by omega);have z:(num:Int) - 4 - 1=(num:Int) - 5:=by omega
 have A:aP blocks=some blocks:=by
  unfold aP;rw[app_small _ _ (by simp;omega)];rfl
 refine⟨?_,?_⟩<;>intros
 ·unfold eW oH;rw[A,cM,B,cM,h,u,z];rfl
 ·unfold dT oH;rw[A,cM,B,cM,h,u,z];rfl
end Go.PlMi
namespace Go.PlMi
open Go Go.Sw Go.Mo Go.Pl Go.PlSt
variable {d:lE}{blocks:List aQ}{a b n:Nat}
theorem Cm(num:Nat)(blocks:List aQ):oH [] num blocks=[((num:Int),blocks)]:=by
 unfold oH Ga eV Fa;simp only[aCe,aBd,aAx,aDz,kp];rw[aAj (by omega)];rfl
theorem Gw(h:nL d blocks a b)(h0:1<=blocks.length)(h1:blocks.length<=32)(ha:a<=2147483647)(hb:b+1<=2147483647):∃d',nL d' blocks a (b+1)/\
  (∀b1 b2 b3 b4 b5 b6 b7 b8 b9 b10 b11 b12 b13 b14 b15 b16 b17,eM (blocks.length:Int) b1 b2 b3 b4 b5 b6 b7 b8 b9 b10 b11 b12 b13 b14 b15 b16 b17 (blocks.length:Int) d=
   some (none,(blocks.length:Int),(a:Int),((b+1:Nat):Int),blocks,((a:Int),[],[],true),[((a:Int),blocks)],-1,(0,0,[]),0,0,[],(blocks.length:Int),d'))/\
  (∀b1 b2 b3 b4 b5 b6 b7 b8 b9 b10 b11 b12 b13 b14 b15 b16 b17 b18 b19 b20 b21,fK (blocks.length:Int) b1 b2 b3 b4 b5 b6 b7 b8 b9 b10 b11 b12 b13 b14 b15 b16 b17 b18 b19 b20 b21 (blocks.length:Int) d=
   some (none,(blocks.length:Int),(a:Int),((b+1:Nat):Int),blocks,((a:Int),[],[],true),[((a:Int),blocks)],-1,(0,0,[]),0,0,[],(blocks.length:Int),d')):=by
 obtain⟨d',s,A,_,B⟩:=Ur h h0 h1 ha hb;have u:=wO s;have z:(Ga ([]:List (Int×List aQ)) (a:Int) blocks).isSome=true:=rfl;obtain⟨C,D⟩:=Jj (blocks:=blocks) [] a (by omega) ha z;refine⟨d',s,?_,?_⟩<;>intros
 ·unfold eM;rw[A,cM];simp only[aAa,pF];rw[u,cM];simp only[];rw[C,cM,Cm]
 ·unfold fK;rw[B,cM];simp only[aAa,pF];rw[u,cM];simp only[];rw[D,cM,Cm]
theorem Gx(h:nL d blocks a b)(h0:1<=blocks.length)(h1:blocks.length<=32)(ha:a<=2147483647)(hb:b+1<=2147483647):∃d',nL d' blocks a (b+1)/\
  (∀b1 b2 b3 b4 b5 b6 b7 b8 b9 b10 b11 b12 b13 b14 b15 b16 b17 b18 b19,fW (blocks.length:Int) b1 b2 b3 b4 b5 b6 b7 b8 b9 b10 b11 b12 b13 b14 b15 b16 b17 b18 b19 (blocks.length:Int) d=
   some (none,(blocks.length:Int),(a:Int),((b+1:Nat):Int),-1,(0,0),(blocks.length:Int),d'))/\
  (∀b1 b2 b3 b4 b5 b6 b7 b8 b9 b10 b11 b12 b13 b14 b15 b16 b17 b18 b19 b20 b21,fL (blocks.length:Int) b1 b2 b3 b4 b5 b6 b7 b8 b9 b10 b11 b12 b13 b14 b15 b16 b17 b18 b19 b20 b21 (blocks.length:Int) d=
   some (none,(blocks.length:Int),(a:Int),((b+1:Nat):Int),-1,(0,0),(blocks.length:Int),d')):=by
 obtain⟨d',s,_,u,_⟩:=Ur h h0 h1 ha hb;refine⟨d',s,?_,?_⟩<;>intros
 ·unfold fW;rw[u,cM]
 ·unfold fL;rw[u,cM]
def tup(s:PS):=(s.n,s.fn,s.fnum,s.boots,s.blocks,s.epochs,s.past,s.session,s.sender,s.sent,s.safe,s.offered,s.on,s.onum,s.oboots,s.first,s.receiver,s.net,s.fsn,s.fd,s.osn,s.od)
theorem HF(h0:1<=n)(h1:n<=32):∃d1 d2,nL d1 (List.replicate n aU) 0 1/\nL d2 (List.replicate n aU) 0 1/\
  iO (n:Int)=some (some (tup { n:=n,fn:=n,fnum:=0,boots:=1,blocks:=List.replicate n aU,epochs:=(0,[],[],true),past:=[(0,List.replicate n aU)],session:= -1,sender:=(0,0,[]),sent:=0,safe:=0,offered:=[],on:=n,onum:=0,oboots:=1,first:= -1,receiver:=(0,0),net:=[],fsn:=n,fd:=d1,osn:=n,od:=d2 }),none):=by
 have u:=Lv (n:=n) h1;have h:(List.replicate n aU).length=n:=aBi;obtain⟨d1,s1,z,_⟩:=Gw u (by rw[h];exact h0) (by rw[h];exact h1) (by decide) (by decide);obtain⟨d2,B,A,_⟩:=Gx u (by rw[h];exact h0) (by rw[h];exact h1) (by decide) (by decide);rw[h] at z A;refine⟨d1,d2,s1,B,?_⟩;unfold iO;rw[HE h0 h1,cM];simp only[uV,aAa,pF,cM];rw[z,cM];simp only[aAa,pF];rw[A,cM];rfl
end Go.PlMi
namespace Go.PlMi
open Go Go.Sw Go.Mo Go.Pl Go.PlEp
structure EpM (m:Nat) (b:Bd) (now:List aQ) (snaps:List (List aQ)):Prop where
 may:tF b (m:Int)=0
 num:(snaps.length:Int)=b.1+1
 nowl:now.length=m
 len:∀s∈snaps,s.length=m
 open_:Kf (snaps.getD b.1.toNat []) b.2.1=now
 chain:Zm snaps b.2.2.1
variable {m:Nat}{b:Bd}{now:List aQ}{snaps:List (List aQ)}
theorem EpM.add(h:EpM m b now snaps){p:oD}(hp:0<=p.1/\p.1<m):EpM m (b.1,putF b.2.1 p,b.2.2.1,b.2.2.2) (now.set p.1.toNat p.2) snaps:=by
 obtain⟨E,F,G,H,I,z,K,L,M⟩:=bmay_ok h.may;have B:=ris_bounds m b.2.1 _ z;have C:=ris_bounds m (putF b.2.1 p) _ (Tq hp z);refine⟨KR h.may hp,h.num,by rw[aCr];exact h.nowl,h.len,?_,h.chain⟩;have D:Kf (snaps.getD b.1.toNat []) (putF b.2.1 p)=Kf (snaps.getD b.1.toNat []) (b.2.1++[p]):=
  Pf (fun q u=>by have:=C q u;omega) (fun q u=>by
   rcases aA0.1 u with u | u
   ·have:=B q u;omega
   ·simp at u;subst u;exact hp.1) fun i=>CA z i
 show Kf (snaps.getD b.1.toNat []) (putF b.2.1 p)=_;rw[D];have A:=h.open_;unfold Kf at A ⊢;rw[aC5,A];rfl
theorem HG{n base:Int}:∀(l:List Ep) (j:Int),Fg n base j l=true->∀e∈l,e.1<=base+j+l.length - 1
 | [],_,_,e,h=>by simp at h
 |x::l,j,u,e,h=>by
  simp only[Fg] at u;split at u
  ·rename_i z;rcases aAo.1 h with rfl | h
   ·simp only[aAq];omega
   ·have:=HG l (j+1) u e h;simp only[aAq];omega
  ·cases u
theorem EpM.shut(h:EpM m b now snaps)(hi:b.1<2147483647):EpM m (Ay b) now (snaps++[now]):=by
 obtain⟨I,K,L,M,N,O,P,Q,E⟩:=bmay_ok h.may;have H:=h.num;have A:(Ay b).1=b.1+1:=by unfold Ay;split;rfl;split<;>rfl
 have C:(Ay b).2.1=[]:=by unfold Ay;split;rfl;split<;>rfl
 have D:∀e∈b.2.2.1,e.1<=b.1:=fun e u=>by have:=HG _ _ E e u;omega
 have B:Zm (snaps++[now]) b.2.2.1:=fun e u=>by
  obtain⟨F,G⟩:=h.chain e u;have:=D e u;exact⟨F,by rw[tG (by omega),tG (by omega)];exact G⟩
 refine⟨GC h.may hi,by rw[A];simp;omega,h.nowl,fun s z=>?_,?_,?_⟩
 ·rcases aA0.1 z with z | z
  ·exact h.len s z
  ·simp at z;subst z;exact h.nowl
 ·rw[C,A,Ds (by omega)];rfl
 ·unfold Ay;split
  ·exact B
  ·split
   ·intro e u;simp at u
   ·intro e u;rcases aA0.1 u with u | u
    ·exact B e u
    ·simp only[aCd] at u;subst u;refine⟨by simp only;omega,?_⟩;simp only;rw[show b.1+1 - 1=b.1 by omega,tG (by omega),Ds (by omega)];exact h.open_
theorem EpM.drop(h:EpM m b now snaps){num:Int}(hn:0<=num/\num<=b.1):oB b (m:Int) num=some ((b.1,b.2.1,b.2.2.1.filter (fun e=>decide (num<e.1)),if num=b.1 then false else b.2.2.2),none)/\
  EpM m (b.1,b.2.1,b.2.2.1.filter (fun e=>decide (num<e.1)),if num=b.1 then false else b.2.2.2) now snaps:=
 ⟨KS h.may hn,GB h.may hn,h.num,h.nowl,h.len,h.open_,fun e u=>h.chain e (aCj.1 u).1⟩
theorem Ut(hm:1<=m/\m<=32){num:Nat}(hn:snaps.length=num+1)(hb:num<=2147483647)(hl:∀s∈snaps,s.length=m):EpM m ((num:Int),[],[],true) (snaps.getD num []) snaps:=by
 refine⟨Dr (by omega) (by simp;omega) (by simp) rfl (by simp) (by simp) rfl,by simp;omega,?_,hl,rfl,fun e h=>by simp at h⟩;rw[aAl,aAg (by omega)];exact hl _ (aBk _)
theorem Mh{n:Int}:∀(A:List (Option oD)) (j:Nat),(∀(i:Nat) (p:oD),A[i]? =some (some p)->p.1=((j+i:Nat):Int)/\p.1<n)->∀prev:Int,prev<(j:Int)->Go.PlPn.rise n prev (A.filterMap id)=true
 | [],_,_,_,_=>rfl
 |none::A,j,h,prev,B=>by
  simp only[List.filterMap_cons,id];exact Mh A (j+1) (fun i p u=>by have:=h (i+1) p (by simpa using u);refine⟨?_,this.2⟩;rw[this.1];congr 1;omega) prev (by omega)
 |some q::A,j,h,prev,B=>by
  have z:=h 0 q rfl;simp only[List.filterMap_cons,id,Go.PlPn.rise,aAr,aBy];refine⟨by unfold Go.PlPn.badP;simp;omega,?_⟩;exact Mh A (j+1) (fun i p u=>by have:=h (i+1) p (by simpa using u);refine⟨?_,this.2⟩;rw[this.1];congr 1;omega) q.1 (by rw[z.1];omega)
theorem EpM.since(h:EpM m b now snaps){k:Int}(hk:0<=k/\k<=b.1):mL b (m:Int) k=some ((0,[]),false,none)\/
  ∃ps,mL b (m:Int) k=some ((b.1,ps),true,none)/\Kf (snaps.getD k.toNat []) ps=snaps.getD b.1.toNat []/\Go.PlPn.rise (m:Int) (-1) ps=true/\ps.length<=32:=by
 obtain⟨E,F,G,H,I,K,L,M,A⟩:=bmay_ok h.may;rw[since_is b m k (sm_of h.may),aAj (by rw[h.may];simp),aAj (by omega)];by_cases c:b.1 - k>b.2.2.1.length
 ·rw[aAn c];exact .inl rfl
 ·rw[aAj c];refine .inr ⟨_,rfl,?_⟩;have u:=Tt (k:=k) (snaps:=snaps) (by omega:(m:Int)<=32) (by omega:b.1 - b.2.2.1.length+1 - 1<=k) (by omega) b.2.2.1 A h.chain;have B:max k (b.1 - b.2.2.1.length+1+b.2.2.1.length - 1)=b.1:=by omega
  rw[B] at u;refine⟨u.1,?_,?_⟩
  ·refine Mh _ 0 (fun i p z=>?_) (-1) (by omega);have C:=u.2 i p z;have D:=Xa (n:=(m:Int)) (Ke A) z;exact⟨by simpa using C,D.2⟩
  ·refine aBq (List.length_filterMap_le _ _) ?_;rw[Ap];simp
end Go.PlMi
namespace Go.PlMi
open Go Go.Sw Go.Mo Go.Pl
open Go.PlSt (BU BV orI orP)
abbrev Chg:=Int×Int×Int×aQ
abbrev Fm:=Int×List Int×List aQ
theorem QQ{a b:Nat}(ha:a<4611686018427387904)(hb:b<4611686018427387904):ar .and .i64 (a:Int) (b:Int)=((a &&& b:Nat):Int):=by
 have h:a &&& b<2 ^ 62:=Nat.lt_of_le_of_lt Nat.and_le_left (by simpa using ha);show IntKind.wrap .i64 ((BitVec.ofInt 64 (a:Int) &&& BitVec.ofInt 64 (b:Int)).toNat:Int)=_;simp only[rA,aEs,aB8];rw[aA2 (a:=a) (by omega),aA2 (a:=b) (by omega)];exact wrap_i64 (by omega)
theorem LK{at_ k fr:Nat}(h1:at_<32)(h2:k<4)(h3:fr<64):ar .or .i64 (ar .or .i64 (sh .shl .i64 (at_:Int) (8:Int)) (sh .shl .i64 (k:Int) (6:Int))) (fr:Int)=((at_*256+k*64+fr:Nat):Int):=by
 have h:sh .shl .i64 (at_:Int) (8:Int)=((at_*2 ^ 8:Nat):Int):=BV (c:=8) (by omega) (by omega);have u:sh .shl .i64 (k:Int) (6:Int)=((k*2 ^ 6:Nat):Int):=BV (c:=6) (by omega) (by omega);rw[h,u,orI (by omega) (by omega),orP (by omega),orI (by omega) (by omega)];have z:at_*2 ^ 8+k*2 ^ 6=(at_*4+k)*2 ^ 6:=by omega
 rw[z,orP (by omega)]
theorem OB{at_ k fr:Nat}(h1:at_<32)(h2:k<4)(h3:fr<64):sh .shr .i64 ((at_*256+k*64+fr:Nat):Int) (8:Int)=(at_:Int)/\
  ar .and .i64 (sh .shr .i64 ((at_*256+k*64+fr:Nat):Int) (6:Int)) (3:Int)=(k:Int)/\ar .and .i64 ((at_*256+k*64+fr:Nat):Int) (63:Int)=(fr:Int):=by
 have h:sh .shr .i64 ((at_*256+k*64+fr:Nat):Int) (8:Int)=(((at_*256+k*64+fr) / 2 ^ 8:Nat):Int):=BU _ 8 (by omega);have u:sh .shr .i64 ((at_*256+k*64+fr:Nat):Int) (6:Int)=(((at_*256+k*64+fr) / 2 ^ 6:Nat):Int):=BU _ 6 (by omega);have z:ar .and .i64 (((at_*256+k*64+fr) / 2 ^ 6:Nat):Int) (3:Int)=((((at_*256+k*64+fr) / 2 ^ 6) &&& 3:Nat):Int):=QQ (b:=3) (by omega) (by omega);have A:ar .and .i64 ((at_*256+k*64+fr:Nat):Int) (63:Int)=(((at_*256+k*64+fr) &&& 63:Nat):Int):=QQ (b:=63) (by omega) (by omega);rw[h,u,z,A];have B:∀x:Nat,x &&& 3=x % 4:=fun x=>aDf x 2;have C:∀x:Nat,x &&& 63=x % 64:=fun x=>aDf x 6;rw[B,C];refine⟨?_,?_,?_⟩<;>congr 1<;>omega
def oJ(q:Chg):Int:=q.1*256+q.2.1*64+q.2.2.1
def sS(l:List Chg):List aQ:=(l.filter fun q=>decide (q.2.1=3)).map fun q=>q.2.2.2
structure ChgOk (q:Chg):Prop where
 a:0<=q.1/\q.1<32
 k:0<=q.2.1/\q.2.1<=3
 f:0<=q.2.2.1/\q.2.2.1<64
 z:q.2.1≠3->q.2.2.2=aU
def qJ(l:List Chg)(frm to:Int):Fm:=((4:Int),[frm,to]++l.map oJ,sS l)
theorem HH{q:Chg}(h:ChgOk q):ar .or .i64 (ar .or .i64 (sh .shl .i64 q.1 (8:Int)) (sh .shl .i64 q.2.1 (6:Int))) q.2.2.1=oJ q:=by
 obtain⟨a,u⟩:∃a:Nat,q.1=a:=⟨q.1.toNat,by have:=h.a;omega⟩
 obtain⟨k,z⟩:∃a:Nat,q.2.1=a:=⟨q.2.1.toNat,by have:=h.k;omega⟩
 obtain⟨f,A⟩:∃a:Nat,q.2.2.1=a:=⟨q.2.2.1.toNat,by have:=h.f;omega⟩
 have B:=h.a;have C:=h.k;have D:=h.f;unfold oJ;rw[u,z,A,LK (by omega) (by omega) (by omega)];omega
theorem LL{q:Chg}(h:ChgOk q):sh .shr .i64 (oJ q) (8:Int)=q.1/\ar .and .i64 (sh .shr .i64 (oJ q) (6:Int)) (3:Int)=q.2.1/\ar .and .i64 (oJ q) (63:Int)=q.2.2.1:=by
 obtain⟨a,u⟩:∃a:Nat,q.1=a:=⟨q.1.toNat,by have:=h.a;omega⟩
 obtain⟨k,z⟩:∃a:Nat,q.2.1=a:=⟨q.2.1.toNat,by have:=h.k;omega⟩
 obtain⟨f,A⟩:∃a:Nat,q.2.2.1=a:=⟨q.2.2.1.toNat,by have:=h.f;omega⟩
 have B:=h.a;have C:=h.k;have D:=h.f;have:=OB (at_:=a) (k:=k) (fr:=f) (by omega) (by omega) (by omega);unfold oJ;rw[u,z,A];have e:(a:Int)*256+(k:Int)*64+(f:Int)=((a*256+k*64+f:Nat):Int):=by omega
 rw[e];exact this
theorem Gy(l:List Chg)(x:Chg):sS (l++[x])=sS l++(if x.2.1=3 then [x.2.2.2] else []):=by
 unfold sS;rw[aB4,aCq];by_cases h:x.2.1=3<;>simp[h]
theorem Uu(l:List Chg):(sS l).length<=l.length:=by unfold sS;rw[aBp];exact aCx _ _
theorem HI(num frm:Int)(ps:List (Int×aQ))(base:List aQ)(hp:ps.length<=32)(he:Go.PlPn.planErr base []=0)(hr:Go.PlPn.rise (base.length:Int) (-1) ps=true)(hk:∀q∈Go.PlPn.pkts ps base [],ChgOk q):
  qF (num,ps) base frm=some (qJ (Go.PlPn.pkts ps base []) frm num,decide (((2+(Go.PlPn.pkts ps base []).length:Nat):Int)<=9)):=by
 unfold qF;rw[Go.PlPn.packets_is ps base [] (by omega) (by simp),aAj (by rw[he];simp),aAn hr,cM];simp only[aAa,pF];have A:(Go.PlPn.pkts ps base []).length<=32:=aBq (Go.PlPn.pkts_len _ _ _) hp;generalize hL:Go.PlPn.pkts ps base []=L at hk A;rw[show ((0:Int),([frm,num]:List Int),([]:List aQ))=(fun (i:Nat) (acc:List Int×List aQ)=>((i:Int),acc.1,acc.2)) 0 ([frm,num],[]) from rfl];refine Ci (l:=L) (fun (i:Nat) (acc:List Int×List aQ)=>((i:Int),acc.1,acc.2)) (fun h acc=>acc=([frm,num]++h.map oJ,sS h)) (fun acc=>(acc.1,acc.2)) ([frm,num],[]) (by unfold fI;omega) rfl ?_ ?_ ?_
 ·rintro h x E acc z rfl;have C:h.length<=32:=by rw[z] at A;simp at A;omega
  have B:=hk x (by rw[z];simp);have D:=Uu h;refine⟨([frm,num]++(h++[x]).map oJ,sS (h++[x])),?_,rfl⟩;simp only[jY z,aAe,jL z,cM,HH B];rw[app_small _ _ (by simp;omega),cM,nxt (by omega),ce,Gy];by_cases u:x.2.1=3
  ·rw[aAs u,aAe,app_small _ _ (by simp;omega),cM,aAn u];simp
  ·rw[aAc u,pF,aAj u];simp
 ·rintro acc rfl;simp only[dC,pF]
 ·rintro acc rfl;simp only[qJ,cle];have e:(([frm,num]++L.map oJ).length:Int)=((2+L.length:Nat):Int):=by rw[sM,aBp];rfl
  rw[e]
end Go.PlMi
namespace Go.PlMi
open Go Go.Sw Go.Mo Go.Pl
theorem Xi(l:List Chg)(frm to:Int)(hl:l.length<=32)(hk:∀q∈l,ChgOk q):nI (qJ l frm to)=some (l,true):=by
 unfold nI qJ;have I:Sw.sub ([frm,to]++l.map oJ) (2:Int) ((([frm,to]++l.map oJ).length:Nat):Int)=some (l.map oJ):=by
  have:=Go.PlFr.sub_drop ([frm,to]++l.map oJ) 2 (by simp);simpa using this
 rw[I,cM];have K:(l.map oJ).length=l.length:=aBp ..;rw[show (sS l,(0:Int),([]:List Chg))=(fun (i:Nat) (acc:List aQ×List Chg)=>(acc.1,(i:Int),acc.2)) 0 (sS l,[]) from rfl];refine Ci (l:=l) (fun (i:Nat) (acc:List aQ×List Chg)=>(acc.1,(i:Int),acc.2)) (fun F acc=>acc.2=F/\sS F++acc.1=sS l) (fun acc=>(acc.1,acc.2)) (sS l,[]) (by unfold fI;omega) ⟨rfl,rfl⟩ ?_ ?_ ?_
 ·rintro F x u ⟨G,out⟩ C ⟨B,h⟩;simp only at B h;subst B;have U:out.length<=32:=by rw[C] at hl;simp at hl;omega
  have H:=hk x (by rw[C];simp);obtain⟨R,S,T⟩:=LL H;have L:Sw.idx (l.map oJ) (out.length:Int)=some (oJ x):=rB (by rw[C];simp);have D:cm .lss (out.length:Int) ((l.map oJ).length:Int)=true:=by rw[K];exact jY C
  simp only[D,aAe,L,cM,R,S,T,jp,ce];have E:sS l=sS out++((if x.2.1=3 then [x.2.2.2] else [])++sS u):=by
   rw[C,show out++x::u=(out++[x])++u by simp];have:∀a b:List Chg,sS (a++b)=sS a++sS b:=fun a b=>by unfold sS;rw[aB4,aCq]
   rw[this,Gy,aAm]
  rw[E] at h;have h:=List.append_cancel_left h;by_cases A:x.2.1=3
  ·rw[aAn A] at h;subst h;rw[aAs A,aAe];have M:decide (((([x.2.2.2]++sS u).length:Nat):Int)=0)=false:=aAc (by simp;omega);have N:Sw.sub ([x.2.2.2]++sS u) (1:Int) ((([x.2.2.2]++sS u).length:Nat):Int)=some (sS u):=by
    have:=Go.PlFr.sub_drop ([x.2.2.2]++sS u) 1 (by simp);simpa using this
   have O:Sw.idx ([x.2.2.2]++sS u) (0:Int)=some x.2.2.2:=by simp[Sw.idx]
   rw[M,pF,O,cM,N,cM,app_small _ _ (by simp;omega),cM,nxt (by omega)];refine⟨(sS u,out++[x]),rfl,rfl,?_⟩;simp only;rw[Gy,aAn A,E,aAn A,aAm]
  ·rw[aAj A,aBd] at h;subst h;rw[aAc A,pF,app_small _ _ (by simp;omega),cM,nxt (by omega)];have P:=H.z A;refine⟨(sS u,out++[x]),?_,rfl,?_⟩
   ·rw[<-P]
   ·simp only;rw[Gy,aAj A,aBa,E,aAj A,aBd]
 ·rintro⟨G,out⟩ ⟨B,h⟩;simp only at B h;subst B;have D:cm .lss (out.length:Int) ((out.map oJ).length:Int)=false:=by rw[aBp];exact dC
  simp only[D,pF]
 ·rintro⟨G,out⟩ ⟨B,h⟩;simp only at B h;subst B;have Q:G=[]:=by
   have:=congrArg List.length h;simp at this;exact this
  subst Q;rfl
end Go.PlMi
namespace Go.PlMi
open Go Go.Sw Go.Mo Go.Pl
open Go.PlSt (nL rM To oY wO xT)
open Go.PlFr (cZ)
def xV(b:aQ):Prop:=b.length=8/\Bytes b
structure NewsAt (n:Nat) (snaps:List (List aQ)) (cur to:Int) (m:Fm):Prop where
 lt:cur<to
 nn:0<=cur
 le:to<snaps.length
 load:cZ m=0
 blk:∀b∈m.2.2,xV b
 say:m=((5:Int),[to],snaps.getD to.toNat [])\/∃l ps,m=qJ l cur to/\l.length<=7/\(∀q∈l,ChgOk q)/\oA l (snaps.getD cur.toNat []) []=some (ps,[],none)/\
  rM (snaps.getD cur.toNat []) ps=snaps.getD to.toNat []/\ps.length<=n/\(∀p∈ps,0<=p.1/\p.1<(n:Int))
def mF:Nat->List aQ->List (Int×aQ)
 |_,[]=>[]
 |i,b::l=>((i:Int),b)::mF (i+1) l
theorem Gz:∀(l:List aQ) (i:Nat) (b:aQ),mF i (l++[b])=mF i l++[(((i+l.length:Nat):Int),b)]
 | [],_,_=>rfl
 |x::l,i,b=>by
  simp only[aBh,mF,aAq];rw[Gz l (i+1) b];congr 4;omega
theorem Co:∀(l:List aQ) (i:Nat),(mF i l).length=l.length
 | [],_=>rfl
 |_::l,i=>by simp[mF,Co l (i+1)]
theorem Jk:∀(l:List aQ) (i:Nat),∀p∈mF i l,(i:Int)<=p.1/\p.1<((i+l.length:Nat):Int)
 | [],_,p,h=>by simp[mF] at h
 |x::l,i,p,h=>by
  simp only[mF,aAo] at h;rcases h with rfl | h
  ·simp only[aAq];omega
  ·have:=Jk l (i+1) p h;simp only[aAq];omega
theorem Mi:∀(l pre base:List aQ),base.length=l.length->rM (pre++base) (mF pre.length l)=pre++l
 | [],pre,base,h=>by
  have:base=[]:=aAu (by simpa using h);subst this;rfl
 |x::l,pre,base,h=>by
  match base,h with
  |y::base,h=>
   simp only[mF];show rM ((pre++y::base).set ((pre.length:Int)).toNat x) (mF (pre.length+1) l)=_;have:(pre++y::base).set ((pre.length:Int)).toNat x=(pre++[x])++base:=by simp
   rw[this];have:=Mi l (pre++[x]) base (by simpa using h);simp only[sM,aAq,aA9] at this;rw[this];simp
variable {n:Nat}{snaps:List (List aQ)}
theorem Mj{d:(List aQ)×(List (Int×aQ))×Int}{blocks:List aQ}{a b:Nat}(h:nL d blocks a b)(h0:1<=blocks.length)(h1:blocks.length<=32)(hbl:b<=2147483647)(puts:List (Int×aQ))(to:Int)(ht:0<=to/\to<=2147483647)
  (hl:puts.length<=blocks.length) (hp:∀p∈puts,0<=p.1/\p.1<(blocks.length:Int)):
  ∃d',nL d' (rM blocks puts) to.toNat b/\
   (∀b0 b1 b2 b4 b5 b6 b7 b8 b9 b10 b11 b12 b13 b14 b15 b16 b17 b20 b21,jB puts to b0 b1 b2 (b:Int) b4 b5 b6 b7 b8 b9 b10 b11 b12 b13 b14 b15 b16 b17 (blocks.length:Int) d b20 b21=some (none,to,(blocks.length:Int),d'))/\
   (∀b0 b1 b2 b3 b4 b5 b6 b7 b8 b9 b10 b11 b12 b13 b15 b16 b17 b18 b19,gF puts to b0 b1 b2 b3 b4 b5 b6 b7 b8 b9 b10 b11 b12 b13 (b:Int) b15 b16 b17 b18 b19 (blocks.length:Int) d=some (none,to,(blocks.length:Int),d')):=by
 have B:To blocks.length puts to (b:Int)=0:=by
  unfold To;rw[aAj (by omega),aAj (by omega),aAj];intro C;obtain⟨p,D,A⟩:=aDe.1 C;have:=hp p D;unfold oY at A;simp at A;omega
 obtain⟨d',x',y',u,z,_,_,_,e,E⟩:=xT h h0 h1 puts to (b:Int) B;have u:to.toNat=x':=by omega
 have z:b=y':=by omega
 subst u z;refine⟨d',E,?_,?_⟩<;>intros
 ·unfold jB;rw[e];rfl
 ·unfold gF;rw[e];rfl
end Go.PlMi
namespace Go.PlMi
open Go Go.Sw Go.Mo Go.Pl
open Go.PlSt (nL rM To oY wO xT)
open Go.PlFr (cZ)
variable {n:Nat}{snaps:List (List aQ)}
theorem Rn{γ:Type}(l:List aQ)(hl:l.length<=1000)(k:List (Int×aQ)->Option γ):
  lp (β:=(List (Int×aQ))) (fun (s19:Int×(List (Int×aQ)))=>
    bif (cm .lss s19.1 (l.length:Int)) then
     (Sw.idx l s19.1).bind fun z26=>
      (Sw.app s19.2 ([(s19.1,z26)]:(List (Int×aQ)))).bind fun v27=>
       some (.next ((ar .add .i64 s19.1 (1:Int)),v27))
    else
     some (.done (.brk s19.2))
    ) ((0:Int),([]:(List (Int×aQ)))) k=k (mF 0 l):=by
 rw[show ((0:Int),([]:List (Int×aQ)))=(fun (i:Nat) (acc:List (Int×aQ))=>((i:Int),acc)) 0 [] from rfl];refine Ci (l:=l) (fun (i:Nat) (acc:List (Int×aQ))=>((i:Int),acc)) (fun h acc=>acc=mF 0 h) (fun acc=>acc) [] (by unfold fI;omega) rfl ?_ ?_ ?_
 ·rintro h x A acc u rfl;have z:h.length<=1000:=by rw[u] at hl;simp at hl;omega
  refine⟨mF 0 (h++[x]),?_,rfl⟩;simp only[jY u,aAe,jL u,cM];rw[app_small _ _ (by simp[Co];omega),cM,nxt (by omega),Gz,aC4]
 ·rintro acc rfl;simp only[dC,pF]
 ·rintro acc rfl;rfl
theorem LM{s:PS}{blocks:List aQ}{a b:Nat}(h:nL s.od blocks a b)(hbk:blocks=snaps.getD a [])(h0:1<=n)(h1:n<=32)(hln:∀x∈snaps,x.length=n)(ha:s.onum=(a:Int))(hal:a<snaps.length)(hsl:snaps.length<=2147483647)(hb:s.oboots=(b:Int))(hbl:b<=2147483647)
  (hon:s.on=(n:Int)) (ho:s.osn=(n:Int)) {m:Fm} {to:Int} (hm:NewsAt n snaps (a:Int) to m):
  ∃d',nL d' (snaps.getD to.toNat []) to.toNat b/\rE m s=some (none,{ s with onum:=to,osn:=(n:Int),od:=d' }):=by
 have S:=hm.lt;have T:=hm.le;have E:∀i:Nat,i<snaps.length->(snaps.getD i []).length=n:=fun i O=>by
  rw[aAl,aAg O];exact hln _ (aBk _)
 have A:blocks.length=n:=by rw[hbk];exact E a hal
 have F:(snaps.getD to.toNat []).length=n:=E _ (by omega);rcases hm.say with rfl |⟨l,P,rfl,U,Q,D,z,V,R⟩
 ·
  obtain⟨d',u,_,e⟩:=Mj h (by omega) (by omega) hbl (mF 0 (snaps.getD to.toNat [])) to (by omega) (by rw[Co];omega) (fun p C=>by have:=Jk _ _ p C;omega);rw[A] at e;have z:rM blocks (mF 0 (snaps.getD to.toNat []))=snaps.getD to.toNat []:=by
   have:=Mi (snaps.getD to.toNat []) [] blocks (by omega);simpa using this
  rw[z] at u;refine⟨d',u,?_⟩;unfold rE eN;have B:Sw.idx [to] (0:Int)=some to:=by simp[Sw.idx]
  have I:((([to]:List Int).length:Nat):Int)=1:=rfl;simp only[ce,I,hon,F,B,cg,aB9,aAe,cM];rw[ha,aAs (show to>(a:Int) by omega),aAe];have G:=Rn (snaps.getD to.toNat []) (by omega) (γ:=(Option Int)×Int×Int×((List aQ)×(List (Int×aQ))×Int));rw[F] at G;rw[G];simp only[cM,hb,ho,e]
 ·
  obtain⟨d',u,_,e⟩:=Mj h (by omega) (by omega) hbl P to (by omega) (by omega) (fun p C=>by have:=R p C;omega);rw[A] at e;rw[aAf] at D z;rw[hbk,z] at u;refine⟨d',u,?_⟩;have H:=wO h;rw[A] at H;unfold rE eN;have K:=Xi l (a:Int) to (by omega) Q;have B:Sw.idx ((qJ l (a:Int) to).2.1) (0:Int)=some (a:Int):=by simp[qJ,Sw.idx]
  have L:Sw.idx ((qJ l (a:Int) to).2.1) (1:Int)=some to:=by simp[qJ,Sw.idx]
  have M:(qJ l (a:Int) to).1=4:=rfl;have N:decide ((((qJ l (a:Int) to).2.1.length:Nat):Int)>=2)=true:=aAs (by simp[qJ];omega);rw[<-hbk] at D;simp only[ce,M,cge,N,B,L,cg,aAe,cM];rw[show decide ((4:Int)=5)=false from rfl,pF,cM,pF,aAs trivial,aAe,ha,aAs rfl,aAe,aAs (show to>(a:Int) by omega),cM,aAe,ho,H,cM];simp only[aAa,pF,K,cM,D,aBz];rw[show decide ((([]:List Int).length:Int)>0)=false from rfl];simp only[cM,pF,hb,e]
end Go.PlMi
namespace Go.PlMi
open Go Go.Sw Go.Mo Go.Pl
open Go.PlSt (rM)
open Go.PlPn (rise badP Jn pkts Sa news planErr)
open Go.PlFr (cZ dH)
open Go.PlEp (Kf)
theorem Pu{n:Int}:∀(l:List (Int×aQ)) (prev:Int) (acc:List aQ),-1<=prev->rise n prev l=true->∀i:Nat,(i:Int)<=prev->(Jn acc l)[i]? =acc[i]?
 | [],_,_,_,_,_,_=>rfl
 |x::l,prev,acc,z,h,i,A=>by
  simp only[rise,aAr,aBy] at h;have u:=h.1;unfold badP at u;simp at u;show (Jn (acc.set x.1.toNat x.2) l)[i]? =_;rw[Pu l x.1 _ (by omega) h.2 i (by omega),aBo (by omega)]
theorem AA{n:Int}:∀(l:List (Int×aQ)) (prev:Int) (acc:List aQ),-1<=prev->rise n prev l=true->(n<=acc.length)->∀p∈l,(Jn acc l)[p.1.toNat]? =some p.2
 | [],_,_,_,_,_,p,u=>by simp at u
 |x::l,prev,acc,B,h,A,p,u=>by
  simp only[rise,aAr,aBy] at h;have z:=h.1;unfold badP at z;simp at z;show (Jn (acc.set x.1.toNat x.2) l)[p.1.toNat]? =_;rcases aAo.1 u with rfl | u
  ·rw[Pu l p.1 _ (by omega) h.2 _ (by omega),aB1 (by omega)]
  ·exact AA l x.1 _ (by omega) h.2 (by rw[aCr];exact A) p u
theorem Uv{n:Int}:∀(l:List (Int×aQ)) (prev:Int),prev<n->rise n prev l=true->(l.length:Int)<=n - 1 - prev
 | [],_,z,_=>by simp;omega
 |x::l,prev,z,h=>by
  simp only[rise,aAr,aBy] at h;have u:=h.1;unfold badP at u;simp at u;have:=Uv l x.1 (by omega) h.2;simp only[aAq];omega
variable {n:Nat}{snaps:List (List aQ)}
theorem LN{ps:List (Int×aQ)}{base:List aQ}(hr:rise (base.length:Int) (-1) ps=true)(hb:base.length<=32):∀q∈pkts ps base [],ChgOk q:=by
 intro q u;unfold pkts at u;obtain⟨p,A,rfl⟩:=aBn.1 u;have B:=Go.PlPn.rise_mem hr p (aCj.1 A).1;unfold Sa;split
 ·exact⟨by simp only;omega,by simp,by simp,fun _=>rfl⟩
 ·split
  ·rename_i z;have:=aEe z;exact⟨by simp only;omega,by simp,by simp only;omega,fun _=>rfl⟩
  ·split
   ·rename_i h;simp at h
   ·exact⟨by simp only;omega,by simp,by simp,fun h=>by simp at h⟩
theorem HJ{ps:List (Int×aQ)}{base:List aQ}:∀x∈sS (pkts ps base []),∃p∈ps,x=p.2:=by
 intro x A;unfold sS at A;obtain⟨q,z,rfl⟩:=aBn.1 A;obtain⟨z,u⟩:=aCj.1 z;unfold pkts at z;obtain⟨p,E,rfl⟩:=aBn.1 z;refine⟨p,(aCj.1 E).1,?_⟩;unfold Sa at u ⊢;split at u
 ·simp at u
 ·rename_i B;rw[aAj B];split at u
  ·simp at u
  ·rename_i C;rw[aAj C];split at u
   ·rename_i h;simp at h
   ·rename_i D;rw[aAj D]
theorem Ki{f:Fm}(h1:0<=f.1/\f.1<=15)(h2:f.2.1.length<=9)(h3:f.2.2.length<=32)(h4:∀x∈f.2.1,0<=x/\x<=2147483647):cZ f=0:=by
 have u:dH f=0:=by
  unfold dH;rw[aAj (by omega),aAj (by omega),aAj];intro z;obtain⟨x,A,h⟩:=aDe.1 z;have:=h4 x A;rw[Go.PlFr.bad_no.2 this] at h;cases h
 unfold cZ;rw[aAn u,aAj (by omega)]
theorem LO{b:Int×List (Int×aQ)×List (Int×List (Int×aQ))×Bool}{now:List aQ}{past:List (Int×List aQ)}{have_:Nat}{k:Int}(he:EpM n b now snaps)(h0:1<=n)(h1:n<=32)(hh:snaps.length=have_+1)(hbig:have_<=2147483647)
  (hbk:∀s∈snaps,∀x∈s,xV x) (hpast:∀j l,eV past j=some l->0<=j/\j<=have_/\l=snaps.getD j.toNat []) (hlast:eV past (have_:Int)=some (snaps.getD have_ [])) (hk: -1<=k/\k<have_):
  ∃m,(∀b0 b3 b4 b7 b8 b10 b11 b12 b13 b14 b15 b16 b17 b18 b19 b20 b21,cY b0 (n:Int) (have_:Int) b3 b4 b past b7 b8 k b10 b11 b12 b13 b14 b15 b16 b17 b18 b19 b20 b21=some m)/\
   ∀cur:Int,0<=cur->cur<have_->(k= -1\/cur=k)->NewsAt n snaps cur have_ m:=by
 have S:b.1=have_:=by have:=he.num;omega
 have I:∀i:Nat,i<snaps.length->snaps.getD i []∈snaps:=fun i M=>by
  rw[aAl,aAg M];exact aBk _
 have O:∀i:Nat,i<snaps.length->(snaps.getD i []).length=n:=fun i M=>he.len _ (I i M);have F:∀cur:Int,0<=cur->cur<have_->NewsAt n snaps cur have_ ((5:Int),[(have_:Int)],snaps.getD have_ []):=fun cur A B=>
  ⟨B,A,by omega,Ki (by simp) (by simp) (by have:=O have_ (by omega);simp only;omega) (fun x C=>by simp at C;omega),fun x C=>hbk _ (I have_ (by omega)) x C,.inl (by simp)⟩
 have G:(eV past (have_:Int)).getD []=snaps.getD have_ []:=by rw[hlast];rfl
 by_cases T:k<0
 ·refine⟨((5:Int),[(have_:Int)],snaps.getD have_ []),?_,fun cur A B _=>F cur A B⟩
  intros
  unfold cY;rw[Go.PlEp.since_is b n k (Go.PlEp.sm_of he.may),aAj (by rw[he.may];simp),aAn (.inl T)];simp only[cM,Option.isNone_some,pF,jp,G]
 ·rcases he.since (k:=k) ⟨by omega,by omega⟩ with E |⟨z,E,X,D,aa⟩
  ·refine⟨((5:Int),[(have_:Int)],snaps.getD have_ []),?_,fun cur A B _=>F cur A B⟩
   intros
   unfold cY;rw[E];simp only[cM,aBf,aAe,pF,jp,G]
  ·cases hg:eV past k with
   |none=>
    refine⟨((5:Int),[(have_:Int)],snaps.getD have_ []),?_,fun cur A B _=>F cur A B⟩
    intros
    unfold cY;rw[E];simp only[cM,aBf,aAe,pF,jp,G,hg,aAa]
   |some u=>
    obtain⟨_,_,H⟩:=hpast k u hg;have U:u.length=n:=by rw[H];exact O _ (by omega)
    have P:planErr u []=0:=Go.PlPn.planErr_zero (by omega) (by omega) (by simp) (by simp);rw[<-U] at D;have K:=LN D (by omega);have Q:=HI b.1 k z u aa P D K;by_cases ab:2+(pkts z u []).length<=9
    ·refine⟨qJ (pkts z u []) k b.1,?_,fun cur A B N=>?_⟩
     ·intros
      unfold cY;rw[E];simp only[cM,aBf,aAe,jp,hg,aCu,aCe,Q];rw[aAs (by omega),aAe]
     ·have V:cur=k:=by rcases N with N | N<;>omega
      subst V;have ac:=Uu (pkts z u []);have R:Jn u z=snaps.getD b.1.toNat []:=by rw[<-X,<-H];rfl
      refine⟨by omega,A,by omega,Ki (by simp[qJ]) (by simp[qJ];omega) (by simp only[qJ];omega) (fun x C=>?_),fun x C=>?_,.inr ⟨pkts z u [],news z u,by rw[S],by omega,K,?_,?_,?_,?_⟩⟩
      ·simp only[qJ,aA0,aAo,aCs,aEu,aBn] at C;rcases C with (rfl | rfl) |⟨q,hq,rfl⟩
       ·omega
       ·omega
       ·have h:=K q hq;have a1:=h.a;have a2:=h.k;have a3:=h.f;unfold oJ;omega
      ·obtain⟨p,L,rfl⟩:=HJ x C;have:=AA z (-1) u (by omega) D (aDg _) p L;rw[R] at this;exact hbk _ (I _ (by omega)) _ (aB7 this)
      ·rw[<-H];exact Go.PlPn.apply_pkts z u [] (by omega) (by simp) P D
      ·rw[<-H];have h1:rM u (news z u)=Jn u (news z u):=rfl;rw[h1,Go.PlPn.setF_news (by omega) D (fun _ _=>rfl),R];congr 1;omega
      ·have h1:=Uv z (-1) (by omega) D;have h2:(news z u).length<=z.length:=aCx _ _;omega
      ·intro p L;have:=Go.PlPn.news_ok D p L;omega
    ·refine⟨((5:Int),[(have_:Int)],snaps.getD have_ []),?_,fun cur A B _=>F cur A B⟩
     intros
     unfold cY;rw[E];simp only[cM,aBf,aAe,jp,hg,aCu,aCe,Q];rw[aAc (by omega),pF,G]
end Go.PlMi
namespace Go.PlMi
open Go Go.Sw Go.Mo Go.Pl
theorem QR(n c:Nat)(hc:c<=64):sh .shr .u64 (n:Int) (c:Int)=((n / 2 ^ c:Nat):Int):=Go.PlTr.shru n c hc
theorem SN{a b:Nat}(ha:a<18446744073709551616)(hb:b<18446744073709551616):ar .and .u64 (a:Int) (b:Int)=((a &&& b:Nat):Int):=by
 show IntKind.wrap .u64 ((BitVec.ofInt 64 (a:Int) &&& BitVec.ofInt 64 (b:Int)).toNat:Int)=_;simp only[rA,aEs,aB8];rw[aA2 (a:=a) (by omega),aA2 (a:=b) (by omega)];have:a &&& b<=a:=Nat.and_le_left;show ((a &&& b:Nat):Int) % 18446744073709551616=_;omega
theorem CK{h:Nat}(hh:h<18446744073709551616):oR (h:Int)=some [((h / 8589934592:Nat):Int),((h / 4 % 2147483648:Nat):Int)]:=by
 unfold oR;have u:sh .shr .u64 (h:Int) (33:Int)=((h / 2 ^ 33:Nat):Int):=QR h 33 (by omega);have z:sh .shr .u64 (h:Int) (2:Int)=((h / 2 ^ 2:Nat):Int):=QR h 2 (by omega);have A:ar .and .u64 ((h / 2 ^ 2:Nat):Int) (2147483647:Int)=((h / 2 ^ 2 &&& 2147483647:Nat):Int):=SN (b:=2147483647) (by omega) (by omega);have B:∀x:Nat,x &&& 2147483647=x % 2147483648:=fun x=>aDf x 31;rw[u,z,A,B,wrap_i64 (by omega),wrap_i64 (by omega)]
theorem HK{bs:List aQ}(h0:1<=bs.length)(h1:bs.length<=32)(hb:∀b∈bs,xV b):∃x y:Int,jK bs=some [x,y]/\(0<=x/\x<=2147483647)/\(0<=y/\y<=2147483647):=by
 have B:=Go.PlTr.tree_goes bs h0;have D:=B.ne;obtain⟨u,l,z⟩:∃u l,Go.PlTr.tree bs=u++[l]:=⟨_,_,(List.dropLast_concat_getLast D).symm⟩
 have E:l.length=1:=by
  rcases B.at u [] l z with⟨_,h⟩|⟨m,r,h,_⟩
  ·exact h
  ·cases h
 obtain⟨v,rfl⟩:∃v,l=[v]:=by
  match l,E with
  | [v],_=>exact⟨v,rfl⟩
 have A:=(Go.PlTr.tree_all bs h1 [v] (by rw[z];simp)).1 v (by simp);have C:=Go.PlTr.tree_len bs;rw[z] at C;have K:u.length<=32:=by simp at C;omega
 unfold jK;rw[Go.PlTr.of_is bs hb (by omega),aAj (by omega),cM];simp only[aAa,pF,z];have F:(((u++[[v]]).length:Nat):Int)=((u.length+1:Nat):Int):=by simp
 have G:ar .sub .i64 ((u.length+1:Nat):Int) 1=(u.length:Int):=by rw[subI (by omega)];omega
 have H:Sw.idx (u++[[v]]) (u.length:Int)=some [v]:=rB (by simp);have I:Sw.idx [v] (0:Int)=some v:=by simp[Sw.idx]
 rw[F,G,H,cM,I,cM];obtain⟨h,rfl⟩:∃h:Nat,v=h:=⟨v.toNat,by have:=A;omega⟩
 rw[CK (by have:=A;omega),cM];exact⟨_,_,rfl,by have:=A;omega,by omega⟩
end Go.PlMi
namespace Go.PlMi
open Go Go.Sw Go.Mo Go.Pl
open Go.PlSt (nL)
open Go.PlFr (Good bC eP cZ)
def pA(fb ob:Nat):Int:=((fb*4096+ob:Nat):Int)
theorem rU{a b c d:Nat}(hb:b<4096)(hd:d<4096)(h:pA a b=pA c d):a=c/\b=d:=by unfold pA at h;omega
def kA(g:Nat):Fm:=((2:Int),[(g:Int)],[])
def eO(g o j:Nat)(t:List Int):Fm:=((3:Int),[(g:Int),(o:Int),(j:Int)]++t,[])
def dataF(S:Int)(q:Nat)(m:Fm):Fm:=((1:Int),[S,(q:Int),m.1]++m.2.1,m.2.2)
def zF(S:Int)(a:Nat):Fm:=((0:Int),[S,(a:Int)],[])
structure MsgOk (m:Fm):Prop where
 load:cZ m=0
 blk:∀b∈m.2.2,xV b
structure Nm where
 n:Nat
 h:Nat
 fb:Nat
 ob:Nat
 k:Nat
 q:Nat
 x:Nat
def sA(v:Nm)(s:PS)(S:Int):Prop:=∃g o:Nat,S=pA g o/\1<=g/\1<=o/\o<=v.ob/\(g<v.fb\/(g=v.fb/\S<=s.session))/\(o=v.ob->(g:Int)<=s.first)
def Ha(v:Nm)(snaps:List (List aQ))(s:PS)(f:Fm):Prop:=
 (∃g:Nat,1<=g/\g<=v.fb/\f=kA g)\/
 (∃S q m,f=dataF S q m/\MsgOk m/\sA v s S/\(S=s.session->q<v.q\/(q=v.q/\s.sender.2.2=[m]))/\(0<=s.first->S=s.receiver.1->q<=v.x/\(q=v.x->∃to,NewsAt v.n snaps v.k to m)))
def Hb(v:Nm)(snaps:List (List aQ))(s:PS)(f:Fm):Prop:=
 (∃g o j t,f=eO g o j t/\1<=g/\g<=v.fb/\1<=o/\o<=v.ob/\j<=v.k/\jK (snaps.getD j [])=some t/\(g=v.fb->o=v.ob->s.session<pA g o->j=v.k/\s.first=(v.fb:Int)/\v.x=0))\/
 (∃S a,f=zF S a/\sA v s S/\(S=s.session->a<=v.q\/(a=v.q+1/\s.sender.2.2≠ []/\s.sent<=v.k))/\(0<=s.first->S=s.receiver.1->a<=v.x))
structure NetOk (v:Nm) (snaps:List (List aQ)) (s:PS) (y:Bool×Bool×List Int):Prop where
 bytes:Bytes y.2.2
 len:y.2.2.length<=2000
 ne:y.2.2≠ []
 torn:y.2.1=true->eP y.2.2=none
 whole:y.2.1=false->∃f,Good f/\y.2.2=bC f/\(y.1=true->Ha v snaps s f)/\(y.1=false->Hb v snaps s f)
structure Inv (v:Nm) (now:List aQ) (snaps:List (List aQ)) (s:PS):Prop where
 n0:1<=v.n
 n1:v.n<=32
 en:s.n=v.n
 efn:s.fn=v.n
 eon:s.on=v.n
 efsn:s.fsn=v.n
 eosn:s.osn=v.n
 hs:snaps.length=v.h+1
 big:v.h<=100000/\v.fb<=3000/\v.ob<=3000/\v.q<=100000/\v.x<=100000
 pos:1<=v.fb/\1<=v.ob
 enum:s.fnum=v.h
 eboots:s.boots=v.fb
 eoboots:s.oboots=v.ob
 eonum:s.onum=v.k
 kh:v.k<=v.h
 seenF:nL s.fd (snaps.getD v.h []) v.h v.fb
 seenO:nL s.od (snaps.getD v.k []) v.k v.ob
 ep:EpM v.n s.epochs now snaps
 eblocks:s.blocks=now
 bok:∀l∈snaps,∀b∈l,xV b
 nok:∀b∈now,xV b
 past:∀p∈s.past,0<=p.1/\p.1<=v.h/\p.2=snaps.getD p.1.toNat []
 last:eV s.past (v.h:Int)=some (snaps.getD v.h [])
 idle:s.first=v.fb->s.session<pA v.fb v.ob->v.x=0
 safe:0<=s.safe/\s.safe<=v.k
 sent: -1<=s.sent/\s.sent<=v.h/\(s.sent= -1->0<v.h)
 low:s.sender.2.2=[]->s.sent<=s.safe
 session:s.session= -1\/∃o:Nat,1<=o/\o<=v.ob/\s.session=pA v.fb o/\(o=v.ob->s.first=v.fb)
 sender:(s.session= -1/\s.sender=(0,0,[])/\s.offered=[])\/(0<=s.session/\s.sender.1=s.session/\s.sender.2.1=v.q)
 queue:(s.sender.2.2=[]/\s.offered=[])\/∃m,s.sender.2.2=[m]/\s.offered=[s.sent]/\MsgOk m/\0<=s.sent
 first:(s.first= -1/\s.receiver=(0,0)/\v.x=0)\/∃g:Nat,1<=g/\g<=v.fb/\s.first=g/\s.receiver=(pA g v.ob,(v.x:Int))
 act:s.session=pA v.fb v.ob->(v.x=v.q/\(s.sender.2.2=[]->s.sent=v.k\/(s.sent= -1/\v.k<v.h))/\(∀m,s.sender.2.2=[m]->NewsAt v.n snaps v.k s.sent m))\/(v.x=v.q+1/\s.sender.2.2≠ []/\s.sent=v.k)
 net:∀y∈s.net,NetOk v snaps s y
 netl:s.net.length<=64
end Go.PlMi
namespace Go.PlMi
open Go Go.Sw Go.Mo Go.Pl
open Go.PlSt (nL)
open Go.PlFr (Good bC eP cZ)
theorem AB:xV aU:=⟨by simp[aU],fun x h=>by simp[aU] at h;omega⟩
def Ih(n:Nat)(d1 d2:(List aQ)×(List (Int×aQ))×Int):PS:={ n:=n,fn:=n,fnum:=0,boots:=1,blocks:=List.replicate n aU,epochs:=(0,[],[],true),past:=[(0,List.replicate n aU)],session:= -1,sender:=(0,0,[]),sent:=0,safe:=0,offered:=[],on:=n,onum:=0,oboots:=1,first:= -1,receiver:=(0,0),net:=[],fsn:=n,fd:=d1,osn:=n,od:=d2 }
theorem CL{n:Nat}(h0:1<=n)(h1:n<=32){d1 d2:(List aQ)×(List (Int×aQ))×Int}(s1:nL d1 (List.replicate n aU) 0 1)(s2:nL d2 (List.replicate n aU) 0 1):
  Inv ⟨n,0,1,1,0,0,0⟩ (List.replicate n aU) [List.replicate n aU] (Ih n d1 d2):=by
 have u:∀b∈List.replicate n aU,xV b:=fun b E=>by rw[List.eq_of_mem_replicate E];exact AB
 have C:=Ut (m:=n) (snaps:=[List.replicate n aU]) ⟨h0,h1⟩ (num:=0) rfl (by decide) (fun s B=>by simp at B;subst B;simp);constructor
 case n0=>exact h0
 case n1=>exact h1
 case seenF=>exact s1
 case seenO=>exact s2
 case ep=>exact C
 case bok=>intro l z;simp at z;subst z;exact u
 case nok=>exact u
 case past=>
  intro p A;simp only[Ih,aCd] at A;subst A;simp
 case last=>rfl
 case session=>exact .inl rfl
 case sender=>exact .inl ⟨rfl,rfl,rfl⟩
 case queue=>exact .inl ⟨rfl,rfl⟩
 case first=>exact .inl ⟨rfl,rfl,rfl⟩
 case act=>intro h;simp[Ih,pA] at h
 case net=>intro y D;simp[Ih] at D
 all_goals simp[Ih]
theorem HL{v:Nm}{now:List aQ}{snaps:List (List aQ)}{s:PS}(h:Inv v now snaps s){at_:Int}{b:aQ}(ha:0<=at_/\at_<v.n)(hb:xV b):
  ∃s',kR at_ b s=some (none,s')/\Inv v (now.set at_.toNat b) snaps s':=by
 have A:=h.ep.add (p:=(at_,b)) ha;have B:=Go.PlEp.add_ok h.ep.may (p:=(at_,b)) ha;obtain⟨z,D,_⟩:=xR (l:=s.blocks) (n:=at_) ha.1 (by rw[h.eblocks,h.ep.nowl];exact ha.2);refine⟨{ s with blocks:=s.blocks.set at_.toNat b,epochs:=(s.epochs.1,Go.PlEp.putF s.epochs.2.1 (at_,b),s.epochs.2.2.1,s.epochs.2.2.2) },?_,?_⟩
 ·unfold kR eD;rw[h.en,B];simp only[cM,aAa,pF,D]
 ·exact { h with
   ep:=A
   eblocks:=by rw[<-h.eblocks]
   nok:=fun x u=>by
    rcases aDq u with u | rfl
    ·exact h.nok x u
    ·exact hb
   net:=fun y C=>by
    have:=h.net y C
    exact⟨this.bytes,this.len,this.ne,this.torn,this.whole⟩}
theorem AD{v:Nm}{now:List aQ}{snaps:List (List aQ)}{s:PS}(h:Inv v now snaps s){at_:Int}{b:aQ}(ha:at_<0\/at_>=v.n):kR at_ b s=some (some 1,s):=by
 have u:=Go.PlEp.add_is s.epochs (v.n:Int) (at_,b) (Go.PlEp.sm_of h.ep.may);rw[aAj (by rw[h.ep.may];simp),aAn ha] at u;unfold kR eD;rw[h.en,u];simp only[cM,aCu,aAe];rw[<-h.en]
theorem LP{v:Nm}{now:List aQ}{snaps:List (List aQ)}{s:PS}(h:Inv v now snaps s){at_:Int}(ha:0<=at_/\at_<v.n):nM at_ s=some (now.getD at_.toNat [],none,s):=by
 obtain⟨z,u,A⟩:=xR (l:=now) (n:=at_) ha.1 (by rw[h.ep.nowl];exact ha.2);unfold nM fE;rw[h.en,h.eblocks,cl,cge,aAc (by omega),pF,aAc (by omega)];simp only[cM,pF,u];congr 2;rw[aAl,A];rfl
theorem HM{v:Nm}{now:List aQ}{snaps:List (List aQ)}{s:PS}(h:Inv v now snaps s){at_:Int}(ha:at_<0\/at_>=v.n):nM at_ s=some (aU,some 1,s):=by
 unfold nM fE;rw[h.en,cl,cge];by_cases u:at_<0
 ·rw[aAs u];simp
 ·rw[aAc u,aAs (by omega)];simp
theorem Pv{β:Type}{k j:Int}(hj:j≠k):∀m:List (Int×β),eV (Fa m k) j=eV m j
 | []=>rfl
 | (a,b)::m=>by
  have h:=Pv hj m;unfold Fa at h ⊢;simp only[aAx,kp];by_cases u:a=k
  ·subst u;simp only[aBb,List.eraseIdx_cons_zero,eV];rw[aAj (fun e=>hj e.symm)]
  ·rw[aAj u];cases hk:kp (m.map (·.1)) k with
   |none=>simp
   |some q=>
    rw[hk] at h;simp only[aBu,List.eraseIdx_cons_succ,eV];split
    ·rfl
    ·exact h
theorem HN{β:Type}{k:Int}{m:List (Int×β)}{p:Int×β}(h:p∈Fa m k):p∈m:=by
 unfold Fa at h;split at h
 ·exact List.mem_of_mem_eraseIdx h
 ·exact h
theorem Hc{β:Type}{j:Int}{l:β}:∀{m:List (Int×β)},eV m j=some l->(j,l)∈m
 | [],h=>by cases h
 | (a,b)::m,h=>by
  unfold eV at h;split at h
  ·rename_i e;subst e;cases h;exact aA6
  ·exact aAz _ (Hc h)
theorem Uw{β:Type}{j:Int}{l:β}:∀{m:List (Int×β)},eV m j=none->eV (m++[(j,l)]) j=some l
 | [],_=>by simp[eV]
 | (a,b)::m,h=>by
  unfold eV at h;split at h
  ·cases h
  ·rename_i e;simp only[aBh,eV];rw[aAj e];exact Uw h
theorem AE{n:Int}:∀(l:List (Int×aQ)) (last:Int),last<n->Go.PlEp.risB n last l=true->(l.length:Int)<=n - 1 - last
 | [],last,A,_=>by simp;omega
 |x::l,last,A,h=>by
  have u:=Go.PlEp.ris_bounds n (x::l) last h x (by simp);have z:Go.PlEp.risB n x.1 l=true:=by
   unfold Go.PlEp.risB at h;split at h
   ·cases h
   ·exact h
  have:=AE l x.1 u.2 z;simp only[aAq];omega
end Go.PlMi
namespace Go.PlMi
open Go Go.Sw Go.Mo Go.Pl
open Go.PlSt (nL rM)
open Go.PlEp (tG Ds Ay Kf)
open Go.PlFr (Good bC eP cZ)
theorem NewsAt.mono{n:Nat}{snaps:List (List aQ)}{cur to:Int}{m:Fm}(h:NewsAt n snaps cur to m)(x:List aQ):NewsAt n (snaps++[x]) cur to m:=by
 have u:=h.lt;have z:=h.nn;have A:=h.le;refine⟨u,z,by simp;omega,h.load,h.blk,?_⟩;rw[tG (by omega),tG (by omega)];exact h.say
theorem NetOk.mono{v:Nm}{snaps:List (List aQ)}{s s':PS}{y:Bool×Bool×List Int}(h:NetOk v snaps s y)(x:List aQ)(hk:v.k<snaps.length)(e1:s'.session=s.session)(e2:s'.sender=s.sender)(e3:s'.first=s.first)(e4:s'.receiver=s.receiver)(e5:s'.sent=s.sent)(hh:Nat):
  NetOk { v with h:=hh } (snaps++[x]) s' y:=by
 refine⟨h.bytes,h.len,h.ne,h.torn,fun N=>?_⟩;obtain⟨f,P,Q,R,T⟩:=h.whole N;refine⟨f,P,Q,fun C=>?_,fun C=>?_⟩
 ·rcases R C with⟨g,u,z,A⟩|⟨S,q,m,u,z,A,B,K⟩
  ·exact .inl ⟨g,u,z,A⟩
  ·refine .inr ⟨S,q,m,u,z,?_,?_,?_⟩
   ·obtain⟨g,o,D,E,F,G,H,I⟩:=A;exact⟨g,o,D,E,F,G,by rw[e1];exact H,by rw[e3];exact I⟩
   ·rw[e1,e2];exact B
   ·rw[e3,e4];intro L M;obtain⟨U,V⟩:=K L M;exact⟨U,fun O=>by obtain⟨X,d4⟩:=V O;exact⟨X,d4.mono x⟩⟩
 ·rcases T C with⟨g,o,j,t,u,z,A,B,K,a6,a7,a8⟩|⟨S,a,u,z,A,B⟩
  ·refine .inl ⟨g,o,j,t,u,z,A,B,K,a6,?_,?_⟩
   ·rw[tG (by omega)];exact a7
   ·rw[e1,e3];exact a8
  ·refine .inr ⟨S,a,u,?_,?_,?_⟩
   ·obtain⟨g,o,D,E,F,G,H,I⟩:=z;exact⟨g,o,D,E,F,G,by rw[e1];exact H,by rw[e3];exact I⟩
   ·rw[e1,e2,e5];exact A
   ·rw[e3,e4];exact B
theorem Xj{v:Nm}{now:List aQ}{snaps:List (List aQ)}{s:PS}(h:Inv v now snaps s)(hb:v.h+1<=100000):
  ∃s',pR s=some (none,s')/\Inv { v with h:=v.h+1 } now (snaps++[now]) s':=by
 have aa:=h.big;have ab:=h.kh;have ac:=h.hs;have ad:=h.n1;have ae:=h.n0;have I:s.epochs.1=v.h:=by have:=h.ep.num;omega
 obtain⟨k1,k2,k3,k4,k5,F,k7,k8,k9⟩:=Go.PlEp.bmay_ok h.ep.may;have K:snaps.getD v.h []∈snaps:=by
  rw[aAl,aAg (by omega)];exact aBk _
 have L:(snaps.getD v.h []).length=v.n:=h.ep.len _ K;have af:=AE s.epochs.2.1 (-1) (by omega) F;have M:=Go.PlEp.ris_bounds v.n s.epochs.2.1 _ F;obtain⟨V,G,H,_⟩:=Mj h.seenF (by omega) (by omega) (by omega) s.epochs.2.1 ((v.h+1:Nat):Int) (by omega) (by omega) (fun p u=>by have:=M p u;omega);have N:rM (snaps.getD v.h []) s.epochs.2.1=now:=by
  have:=h.ep.open_;rw[I,aAf] at this;exact this
 rw[N,aAf] at G;rw[L] at H;have O:=Go.PlEp.seal_ok h.ep.may (by omega);have hnone:eV s.past ((v.h+1:Nat):Int)=none:=by
  cases hg:eV s.past ((v.h+1:Nat):Int) with
  |none=>rfl
  |some l=>have:=h.past _ (Hc hg);simp only at this;omega
 have E:Ga s.past ((v.h+1:Nat):Int) now=some (s.past++[(((v.h+1:Nat):Int),now)]):=by unfold Ga;rw[hnone]
 obtain⟨_,X⟩:=Jj (blocks:=now) s.past (v.h+1) (by have:=h.ep.nowl;omega) (by omega) (by rw[E];rfl);have P:ar .add .i64 s.fnum (1:Int)=((v.h+1:Nat):Int):=by rw[h.enum,nxt (by omega)]
 refine⟨{ s with fnum:=((v.h+1:Nat):Int),epochs:=Ay s.epochs,past:=oH s.past ((v.h+1:Nat):Int) now,fsn:=v.n,fd:=V },?_,?_⟩
 ·unfold pR fA;rw[P,h.eboots,h.efsn,H,cM];simp only[aAa,pF];rw[h.efn,O,cM,h.eblocks];simp only[];rw[X,cM];rfl
 ·have D:(snaps++[now]).getD (v.h+1) []=now:=Ds (by omega);have Q:(snaps++[now]).getD v.k []=snaps.getD v.k []:=tG (by omega);have hrem:oH s.past ((v.h+1:Nat):Int) now=Fa (s.past++[(((v.h+1:Nat):Int),now)]) (((v.h+1:Nat):Int) - 5):=by unfold oH;rw[E];rfl
  exact { h with
   hs:=by simp;omega
   big:=by simp only;omega
   enum:=rfl
   kh:=by simp only;omega
   seenF:=by rw[D];exact G
   seenO:=by rw[Q];exact h.seenO
   efsn:=rfl
   ep:=h.ep.shut (by omega)
   bok:=fun l z=>by
    rcases aA0.1 z with z | z
    ·exact h.bok l z
    ·simp at z;subst z;exact h.nok
   past:=fun p u=>by
    simp only at u ⊢;rw[hrem] at u;rcases aA0.1 (HN u) with u | u
    ·obtain⟨A,C,B⟩:=h.past p u;exact⟨A,by omega,by rw[tG (by omega)];exact B⟩
    ·simp only[aCd] at u;subst u;exact⟨by simp only;omega,by simp only;omega,by simp only;rw[aAf,D]⟩
   last:=by
    simp only;rw[hrem,Pv (by omega),Uw hnone,D]
   sent:=by have:=h.sent;simp only;omega
   act:=fun R=>by
    rcases h.act R with⟨A,C,B⟩|⟨A,C,B⟩
    ·refine .inl ⟨A,fun S=>?_,fun m T=>(B m T).mono now⟩;rcases C S with c |⟨c1,c2⟩
     ·exact .inl c
     ·exact .inr ⟨c1,by simp only;omega⟩
    ·exact .inr ⟨A,C,B⟩
   net:=fun y U=>by
    refine NetOk.mono (s:=s) (h.net y U) now (by omega) ?_ ?_ ?_ ?_ ?_ (v.h+1)<;>rfl }
end Go.PlMi
namespace Go.PlMi
open Go Go.Sw Go.Mo Go.Pl
open Go.PlFr (Good bC eP cZ)
def Ux(a:Int):Prop:= -9223372036854775808<=a/\a<=9223372036854775807
theorem HO{a:Int}(h:Ux a):∃k:Nat,max a (IntKind.wrap .i64 (0 - (ar .add .i64 a (1:Int))))=(k:Int)/\(a=0->k=0):=by
 unfold Ux at h;by_cases u:a=9223372036854775807
 ·subst u;have z:ar .add .i64 (9223372036854775807:Int) 1= -9223372036854775808:=by decide+kernel
  have A:IntKind.wrap .i64 (0 - (-9223372036854775808:Int))= -9223372036854775808:=by decide+kernel
  rw[z,A];exact⟨9223372036854775807,by omega,fun c=>by omega⟩
 ·rw[addI (by omega),wrap_i64 (by omega)];exact⟨(max a (0 - (a+1))).toNat,by omega,fun c=>by omega⟩
theorem NetOk.same{v:Nm}{snaps:List (List aQ)}{s s':PS}{y:Bool×Bool×List Int}(h:NetOk v snaps s y)(e1:s'.session=s.session)(e2:s'.sender=s.sender)(e3:s'.first=s.first)(e4:s'.receiver=s.receiver)(e5:s'.sent=s.sent):NetOk v snaps s' y:=by
 refine⟨h.bytes,h.len,h.ne,h.torn,fun z=>?_⟩;obtain⟨f,A,B,C,D⟩:=h.whole z;refine⟨f,A,B,fun u=>?_,fun u=>?_⟩
 ·have:=C u;unfold Ha sA at this ⊢;rw[e1,e2,e3,e4];exact this
 ·have:=D u;unfold Hb sA at this ⊢;rw[e1,e2,e3,e4,e5];exact this
variable {v:Nm}{now:List aQ}{snaps:List (List aQ)}{s:PS}
theorem Inv.setNet(h:Inv v now snaps s){l:List (Bool×Bool×List Int)}(hl:l.length<=64)(hm:∀y∈l,NetOk v snaps s y):Inv v now snaps { s with net:=l }:=
 { h with
  net:=fun y u=>(hm y u).same rfl rfl rfl rfl rfl
  netl:=hl }
theorem Hd(h:Inv v now snaps s){a:Int}(ha:Ux a):(s.net=[]/\iX a s=some (0,false,s))\/∃i:Nat,i<s.net.length/\iX a s=some ((i:Int),true,s)/\
  (∀b0 b1 b2 b3 b4 b5 b6 b7 b8 b9 b10 b11 b12 b13 b14 b15 b16 b18 b19 b20 b21,bP a b0 b1 b2 b3 b4 b5 b6 b7 b8 b9 b10 b11 b12 b13 b14 b15 b16 s.net b18 b19 b20 b21=some ((i:Int),true))/\(a=0->i=0):=by
 by_cases u:s.net=[]
 ·refine .inl ⟨u,?_⟩;unfold iX bP;rw[u];rfl
 ·right;have A:0<s.net.length:=aBr.2 u;obtain⟨k,C,D⟩:=HO ha;have z:∀b0 b1 b2 b3 b4 b5 b6 b7 b8 b9 b10 b11 b12 b13 b14 b15 b16 b18 b19 b20 b21,bP a b0 b1 b2 b3 b4 b5 b6 b7 b8 b9 b10 b11 b12 b13 b14 b15 b16 s.net b18 b19 b20 b21=some (((k % s.net.length:Nat):Int),true):=by
   intros
   unfold bP;rw[ce,aAc (by omega),pF,C];have B:nz ((s.net.length:Nat):Int)=some ():=by unfold nz;rw[aAj (by omega)]
   rw[B,cM];rfl
  refine⟨k % s.net.length,aCv _ A,?_,z,fun c=>by rw[D c];exact Nat.zero_mod _⟩;unfold iX;rw[z];rfl
theorem AF{α:Type}(l:List α)(i:Nat)(hi:i<l.length):Sw.del l (i:Int) ((i+1:Nat):Int)=some (l.take i++l.drop (i+1)):=by
 unfold Sw.del Sw.sub;rw[aAn (by omega)];simp
theorem Pw{l:List (Bool×Bool×List Int)}(hl:l.length<=1000):cJ l=some l:=by
 unfold cJ;rw[app_small _ _ (by simp;omega)];rfl
theorem LR(h:Inv v now snaps s){a:Int}(ha:Ux a):∃s',qI a s=some (none,s')/\Inv v now snaps s':=by
 rcases Hd h ha with⟨C,u⟩|⟨i,A,u,B,D⟩
 ·refine⟨{ s with net:=s.net },?_,h⟩;unfold iX at u;unfold qI fG;cases hq:bP a s.n s.fn s.fnum s.boots s.blocks s.epochs s.past s.session s.sender s.sent s.safe s.offered s.on s.onum s.oboots s.first s.receiver s.net s.fsn s.fd s.osn s.od with
  |none=>rw[hq] at u;cases u
  |some q=>
   rw[hq] at u;simp only[cM,aAk,aBg] at u;simp only[cM,jp,u.2.1,pF]
 ·refine⟨{ s with net:=s.net.take i++s.net.drop (i+1) },?_,h.setNet (by have:=h.netl;simp;omega) (fun y z=>h.net y (by
   rcases aA0.1 z with z | z
   ·exact aCo z
   ·exact aDp z))⟩
  unfold qI fG cD;rw[B,cM];simp only[jp,aAe];rw[Pw (by have:=h.netl;omega),cM,nxt (by have:=h.netl;omega),AF _ _ A];rfl
theorem CM(h:Inv v now snaps s){a:Int}(ha:Ux a):∃s',kS a s=some (none,s')/\Inv v now snaps s':=by
 rcases Hd h ha with⟨E,u⟩|⟨i,B,u,A,F⟩
 ·refine⟨{ s with net:=s.net },?_,h⟩;unfold iX at u;unfold kS dU;cases hq:bP a s.n s.fn s.fnum s.boots s.blocks s.epochs s.past s.session s.sender s.sent s.safe s.offered s.on s.onum s.oboots s.first s.receiver s.net s.fsn s.fd s.osn s.od with
  |none=>rw[hq] at u;cases u
  |some q=>
   rw[hq] at u;simp only[cM,aAk,aBg] at u;simp only[cM,jp,u.2.1,pF]
 ·have C:=h.netl;by_cases D:s.net.length<64
  ·refine⟨{ s with net:=s.net++[s.net[i]] },?_,h.setNet (by simp;omega) (fun y z=>h.net y (by
    rcases aA0.1 z with z | z
    ·exact z
    ·simp at z;subst z;exact aBk _))⟩
   unfold kS dU;rw[A,cM];simp only[jp,aAe,cl];rw[aAs (by omega),cM,aAe,rB (aAg B),cM,app_small _ _ (by simp;omega)];rfl
  ·refine⟨{ s with net:=s.net },?_,h⟩;unfold kS dU;rw[A,cM];simp only[jp,aAe,cl];rw[aAc (by omega)];simp only[cM,pF]
end Go.PlMi
namespace Go.PlMi
open Go Go.Sw Go.Mo Go.Pl
open Go.PlFr (Good bC eP cZ)
variable {v:Nm}{now:List aQ}{snaps:List (List aQ)}{s:PS}
theorem TA:∀a:Fin 256,ar .or .u8 ((a.1:Nat):Int) 1=((a.1 ||| 1:Nat):Int):=by decide+kernel
theorem SO{b:Int}(h:0<=b/\b<=255):ar .or .u8 b 1=((b.toNat ||| 1:Nat):Int):=by
 have:=TA ⟨b.toNat,by omega⟩;simp only at this;rw[<-this];congr 1;omega
theorem CN{a b:Nat}(ha:a<256)(hb:b<256):a ^^^ (b ||| 1)≠a/\a ^^^ (b ||| 1)<256:=by
 have z:b ||| 1<2 ^ 8:=aD0 (by simpa using hb) (by decide)
 have A:a ^^^ (b ||| 1)<2 ^ 8:=aCc (by simpa using ha) z;refine⟨fun h=>?_,by simpa using A⟩;have B:b ||| 1=0:=by
  have this:a ^^^ (a ^^^ (b ||| 1))=a ^^^ a:=by rw[h]
  rw[<-Nat.xor_assoc,Nat.xor_self,Nat.zero_xor] at this;exact this
 have u:(b ||| 1).testBit 0=true:=by rw[Nat.testBit_or];simp
 rw[B] at u;simp at u
theorem CO(h:Inv v now snaps s){d:Int×Int×Int×aQ}(h1:Ux d.2.1)(h2:Ux d.2.2.1)(h3:xV d.2.2.2):∃s',kT d s=some (none,s')/\Inv v now snaps s':=by
 rcases Hd h h1 with⟨hn,A⟩|⟨i,L,A,M,ac⟩
 ·refine⟨{ s with net:=s.net },?_,h⟩;unfold iX at A;unfold kT dV;cases hq:bP d.2.1 s.n s.fn s.fnum s.boots s.blocks s.epochs s.past s.session s.sender s.sent s.safe s.offered s.on s.onum s.oboots s.first s.receiver s.net s.fsn s.fd s.osn s.od with
  |none=>rw[hq] at A;cases A
  |some q=>
   rw[hq] at A;simp only[cM,aAk,aBg] at A;simp only[cM,A.2.1,aCg,aAe]
 ·have hl:=h.netl;have E:=rB (aAg L);have B:=h.net _ (aBk L);generalize hy:s.net[i]=y at E B;by_cases C:y.2.1=true
  ·refine⟨{ s with net:=s.net },?_,h⟩;unfold kT dV;rw[M,cM];simp only[aBz,pF,E,cM,C,aAe]
  ·have C:y.2.1=false:=by simpa using C
   obtain⟨f,g1,I,_,_⟩:=B.whole C;have N:=B.len;have O:0<y.2.2.length:=aBr.2 B.ne;obtain⟨k,hk,_⟩:=HO h2;have D:k % y.2.2.length<y.2.2.length:=aCv _ O;have H:=B.bytes (y.2.2[k % y.2.2.length]) (aBk D);obtain⟨b0,K⟩:∃b0,d.2.2.2[0]? =some b0:=⟨_,aAg (by have:=h3.1;omega)⟩
   have P:=h3.2 b0 (aB7 K);have Q:Sw.idx d.2.2.2 (0:Int)=some b0:=rB (i:=0) K;generalize hzv:y.2.2[k % y.2.2.length]=z at H;have R:Sw.idx y.2.2 ((k % y.2.2.length:Nat):Int)=some z:=rB (by rw[<-hzv];exact aAg D);have hx:=CN (a:=z.toNat) (b:=b0.toNat) (by omega) (by omega);have S:ar .or .u8 b0 1=((b0.toNat ||| 1:Nat):Int):=SO P;have ab:b0.toNat ||| 1<2 ^ 8:=aD0 (by omega) (by decide)
   have T:ar .xor .u8 z ((b0.toNat ||| 1:Nat):Int)=((z.toNat ^^^ (b0.toNat ||| 1):Nat):Int):=by
    rw[Go.PlFr.xor8 H (by omega),aAf]
   obtain⟨w,hw⟩:∃w:Int,w=((z.toNat ^^^ (b0.toNat ||| 1):Nat):Int):=⟨_,rfl⟩
   have F:Bytes (y.2.2.set (k % y.2.2.length) w):=fun x u=>by
    rcases aDq u with u | rfl
    ·exact B.bytes x u
    ·omega
   have U:NetOk v snaps s (y.1,true,y.2.2.set (k % y.2.2.length) w):=by
    refine⟨F,by simp only[aCr];exact N,fun G=>by have:=congrArg List.length G;simp only[aCr,aA9] at this;omega,fun _=>?_,fun hf=>by cases hf⟩;simp only[I] at F D ⊢;have V:Bytes ((bC f).set (k % (bC f).length) w):=F;refine Go.PlFr.torn g1 D (by omega) (fun G=>?_) V;have:(bC f)[k % (bC f).length]=z:=by rw[<-hzv];simp only[I]
    rw[this] at G;omega
   refine⟨{ s with net:=s.net.set i (y.1,true,y.2.2.set (k % y.2.2.length) w) },?_,h.setNet (by simp;omega) (fun x u=>?_)⟩
   ·unfold kT dV mM;rw[M,cM];have X:nz ((y.2.2.length:Nat):Int)=some ():=by unfold nz;rw[aAj (by omega)]
    have aa:ar .rem .i64 (k:Int) (y.2.2.length:Int)=((k % y.2.2.length:Nat):Int):=rfl;simp only[aBz,pF,E,cM,C];rw[app_small _ _ (by simp;omega),aBd,cM,X,cM,hk,aa,R,cM,Q,cM];simp only[cM,S,T,<-hw,aAf]
   ·rcases aDq u with u | rfl
    ·exact h.net x u
    ·exact U
end Go.PlMi
namespace Go.PlMi
open Go Go.Sw Go.Mo Go.Pl
open Go.PlSt (nL)
open Go.PlFr (Good bC eP cZ)
variable {v:Nm}{now:List aQ}{snaps:List (List aQ)}{s:PS}
theorem xW(a b:Nat):0<=pA a b:=by unfold pA;omega
theorem CP(h:Inv v now snaps s)(hb:v.fb+1<=3000)(a1:Int×Int×Int×aQ):
  ∃s',kB a1 s.n s.fn s.fnum s.boots s.blocks s.epochs s.past s.session s.sender s.sent s.safe s.offered s.on s.onum s.oboots s.first s.receiver s.net s.fsn s.fd s.osn s.od=some (aU,none,tup s')/\s'.net=s.net/\
   Inv { v with fb:=v.fb+1,q:=0 } (snaps.getD v.h []) snaps s':=by
 have aa:=h.big;have ab:=h.kh;have P:=h.hs;have Q:=h.n1;have R:=h.n0;have K:snaps.getD v.h []∈snaps:=by
  rw[aAl,aAg (by omega)];exact aBk _
 have T:(snaps.getD v.h []).length=v.n:=h.ep.len _ K;have L:=Us h.seenF (by omega) (by omega);obtain⟨X,sn,_,N⟩:=Gw h.seenF (by omega) (by omega) (by omega) (by omega);rw[T] at L N;refine⟨{ s with fn:=v.n,fnum:=(v.h:Int),boots:=((v.fb+1:Nat):Int),blocks:=snaps.getD v.h [],epochs:=((v.h:Int),[],[],true),past:=[((v.h:Int),snaps.getD v.h [])],session:= -1,sender:=(0,0,[]),sent:=0,safe:=0,offered:=[],fsn:=v.n,fd:=X },?_,rfl,?_⟩
 ·unfold kB;rw[h.efsn,h.en,L,cM];simp only[uV,aBf,aAe,jp];rw[N,cM];rfl
 ·exact { h with
   big:=by simp only;omega
   pos:=by have:=h.pos;simp only;omega
   efn:=rfl
   enum:=rfl
   eboots:=rfl
   seenF:=sn
   efsn:=rfl
   ep:=Ut ⟨R,Q⟩ P (by omega) h.ep.len
   eblocks:=rfl
   nok:=h.bok _ K
   past:=fun p M=>by
    simp only[aCd] at M;subst M;exact⟨by simp only;omega,by simp only;omega,by simp only;rw[aAf]⟩
   low:=fun _=>aDg _
   last:=by simp only;unfold eV;simp[kp]
   idle:=fun c=>by
    simp only at c;rcases h.first with⟨H,_⟩|⟨g,H,c2,O,_⟩<;>omega
   safe:=by simp only;omega
   sent:=by simp only;omega
   session:= .inl rfl
   sender:= .inl ⟨rfl,rfl,rfl⟩
   queue:= .inl ⟨rfl,rfl⟩
   first:=by
    rcases h.first with c |⟨g,H,c2,O,c4⟩
    ·exact .inl c
    ·exact .inr ⟨g,H,by simp only;omega,O,c4⟩
   act:=fun U=>by have:=xW (v.fb+1) v.ob;simp only at U;omega
   net:=fun y u=>by
    have u:=h.net y u;refine⟨u.bytes,u.len,u.ne,u.torn,fun V=>?_⟩;obtain⟨f,g1,g2,g3,g4⟩:=u.whole V;refine⟨f,g1,g2,fun hb=>?_,fun hb=>?_⟩
    ·rcases g3 hb with⟨g,a1,z,A⟩|⟨S,q,m,a1,z,A,B,I⟩
     ·exact .inl ⟨g,a1,by simp only;omega,A⟩
     ·obtain⟨g,o,C,D,E,F,b5,G⟩:=A;refine .inr ⟨S,q,m,a1,z,⟨g,o,C,D,E,F,.inl (by simp only;omega),G⟩,fun c=>?_,I⟩;have:=xW g o;simp only at c;omega
    ·rcases g4 hb with⟨g,o,j,t,a1,z,A,B,I,a6,a7,a8⟩|⟨S,a,a1,z,A,B⟩
     ·exact .inl ⟨g,o,j,t,a1,z,by simp only;omega,B,I,a6,a7,fun c=>by simp only at c;omega⟩
     ·obtain⟨g,o,C,D,E,F,b5,G⟩:=z;refine .inr ⟨S,a,a1,⟨g,o,C,D,E,F,.inl (by simp only;omega),G⟩,fun c=>?_,B⟩
      have:=xW g o;simp only at c;omega }
theorem CQ(h:Inv v now snaps s)(hb:v.ob+1<=3000)(a1:Int×Int×Int×aQ):
  ∃s',jT a1 s.n s.fn s.fnum s.boots s.blocks s.epochs s.past s.session s.sender s.sent s.safe s.offered s.on s.onum s.oboots s.first s.receiver s.net s.fsn s.fd s.osn s.od=some (aU,none,tup s')/\s'.net=s.net/\
   Inv { v with ob:=v.ob+1,x:=0 } now snaps s':=by
 have aa:=h.big;have ab:=h.kh;have ac:=h.hs;have ad:=h.n1;have ae:=h.n0;have M:snaps.getD v.k []∈snaps:=by
  rw[aAl,aAg (by omega)];exact aBk _
 have N:(snaps.getD v.k []).length=v.n:=h.ep.len _ M;have I:=Us h.seenO (by omega) (by omega);obtain⟨P,Q,_,K⟩:=Gx h.seenO (by omega) (by omega) (by omega) (by omega);rw[N] at I K;refine⟨{ s with on:=v.n,onum:=(v.k:Int),oboots:=((v.ob+1:Nat):Int),first:= -1,receiver:=(0,0),osn:=v.n,od:=P },?_,rfl,?_⟩
 ·unfold jT;rw[h.eosn,h.en,I,cM];simp only[uV,aBf,aAe,jp];rw[K,cM];rw[<-h.en];rfl
 ·exact { h with
   big:=by simp only;omega
   pos:=by have:=h.pos;simp only;omega
   eon:=rfl
   eonum:=rfl
   eoboots:=rfl
   seenO:=Q
   eosn:=rfl
   session:=by
    rcases h.session with c |⟨o,L,c2,H,c4⟩
    ·exact .inl c
    ·exact .inr ⟨o,L,by simp only;omega,H,fun c=>by simp only at c;omega⟩
   first:= .inl ⟨rfl,rfl,rfl⟩
   idle:=fun _ _=>rfl
   act:=fun C=>by
    simp only at C;rcases h.session with c |⟨o,L,c2,H,c4⟩
    ·have:=xW v.fb (v.ob+1);omega
    ·rw[H] at C;have:=(rU (by omega) (by omega) C).2;omega
   net:=fun y u=>by
    have u:=h.net y u;refine⟨u.bytes,u.len,u.ne,u.torn,fun O=>?_⟩;obtain⟨f,R,T,U,V⟩:=u.whole O;refine⟨f,R,T,fun hb=>?_,fun hb=>?_⟩
    ·rcases U hb with⟨g,a1,z,A⟩|⟨S,q,m,a1,z,A,B,a5⟩
     ·exact .inl ⟨g,a1,z,A⟩
     ·obtain⟨g,o,D,E,F,X,G,b6⟩:=A;refine .inr ⟨S,q,m,a1,z,⟨g,o,D,E,F,by simp only;omega,G,fun c=>by simp only at c;omega⟩,B,fun c=>?_⟩;simp only at c;omega
    ·rcases V hb with⟨g,o,j,t,a1,z,A,B,a5,a6,a7,a8⟩|⟨S,a,a1,z,A,B⟩
     ·exact .inl ⟨g,o,j,t,a1,z,A,B,by simp only;omega,a6,a7,fun _ c=>by simp only at c;omega⟩
     ·obtain⟨g,o,D,E,F,X,G,b6⟩:=z;refine .inr ⟨S,a,a1,⟨g,o,D,E,F,by simp only;omega,G,fun c=>by simp only at c;omega⟩,A,fun c=>?_⟩
      simp only at c;omega }
end Go.PlMi
namespace Go.PlMi
open Go Go.Sw Go.Mo Go.Pl
open Go.PlSt (nL)
open Go.PlFr (Good bC eP cZ dH rC Dt lF Ar qH iU Ie Mg mD Ig)
variable {v:Nm}{now:List aQ}{snaps:List (List aQ)}{s:PS}
def nN(l:List (Bool×Bool×List Int))(y:Bool×Bool×List Int):List (Bool×Bool×List Int):=if l.length<64 then l++[y] else l
def Ro(s s':PS):Prop:=s'.net=s.net\/∃y,s'.net=nN s.net (false,y)
theorem Px{l:List (Bool×Bool×List Int)}{y}(h:l.length<=64):(nN l y).length<=64:=by
 unfold nN;split
 ·simp;omega
 ·exact h
theorem CR{l:List (Bool×Bool×List Int)}{x y}(h:x∈nN l y):x∈l\/x=y:=by
 unfold nN at h;split at h
 ·simpa using h
 ·exact .inl h
theorem packed_ne{f:Fm}(g:Good f):bC f≠ []/\(bC f).length<=1004:=by
 have z:=(qH g).2;have u:(bC f).length=(Go.PlFr.body f).length+4:=by unfold bC;rw[sM];unfold Go.PlFr.sum4;simp
 exact⟨fun h=>by rw[h] at u;simp at u,by omega⟩
theorem He(dir:Bool)(b:List Int)(b0 b1 b2 b3 b4 b5 b6 b7 b8 b9 b10 b11 b12 b13 b14 b15 b16 b17 b18 b19 b20 b21)(hl:b17.length<=64):
  dR dir (false,b) b0 b1 b2 b3 b4 b5 b6 b7 b8 b9 b10 b11 b12 b13 b14 b15 b16 b17 b18 b19 b20 b21=some (nN b17 (dir,false,b)):=by
 unfold dR nN;simp only[aCg,aAe,cM];by_cases h:b17.length<64
 ·have:cm .lss (b17.length:Int) (64:Int)=true:=by rw[cl];exact aAs (by omega)
  rw[this,aAn h,aAe,app_small _ _ (by simp;omega),cM]
 ·have:cm .lss (b17.length:Int) (64:Int)=false:=by rw[cl];exact aAc (by omega)
  rw[this,aAj h,pF]
theorem Rp{f:Fm}(g:Good f)(he:dH f=0)(dir:Bool)(b0 b1 b2 b3 b4 b5 b6 b7 b8 b9 b10 b11 b12 b13 b14 b15 b16 b17 b18 b19 b20 b21)(hl:b17.length<=64):
  iD dir f b0 b1 b2 b3 b4 b5 b6 b7 b8 b9 b10 b11 b12 b13 b14 b15 b16 b17 b18 b19 b20 b21=some (none,nN b17 (dir,false,bC f)):=by
 unfold iD;rw[Dt g he,cM];have h:FH (bC f)=some ():=by
  unfold FH;have:=(packed_ne g).1;cases hp:bC f with
  |nil=>exact absurd hp this
  |cons a l=>rfl
 simp only[jp,aBf,aAe];rw[h,cM,He _ _ _ _ _ _ _ _ _ _ _ _ _ _ _ _ _ _ _ _ _ _ _ _ hl];rfl
theorem Inv.push(h:Inv v now snaps s){y:Bool×Bool×List Int}(hy:NetOk v snaps s y):Inv v now snaps { s with net:=nN s.net y }:=
 h.setNet (Px h.netl) (fun x u=>by
  rcases CR u with u | rfl
  ·exact h.net x u
  ·exact hy)
theorem Du{f:Fm}(g:Good f)(dir:Bool)(h1:dir=true->Ha v snaps s f)(h2:dir=false->Hb v snaps s f):NetOk v snaps s (dir,false,bC f):=
 ⟨Ar g,by have:=(packed_ne g).2;simp only;omega,(packed_ne g).1,fun h=>(nomatch h),fun _=>⟨f,g,rfl,h1,h2⟩⟩
theorem Xk{g:Nat}(h:g<=2147483647):dH (kA g)=0/\Good (kA g):=by
 have z:cZ (kA g)=0:=Ki (by unfold kA;simp only;omega) (by unfold kA;simp) (by unfold kA;simp) (fun x u=>by simp only[kA,aCd] at u;subst u;omega);have:=(Go.PlFr.load_frame z).1;exact⟨this,rC this (fun b A=>by simp[kA] at A)⟩
theorem data_good{S:Int}{q:Nat}{m:Fm}(hm:MsgOk m)(hS:0<=S/\S<=2147483647)(hq:q<=2147483647):Good (dataF S q m):=by
 obtain⟨u,z⟩:=Go.PlFr.load_frame hm.load;have g:=rC u hm.blk;refine⟨by unfold dataF;simp,by unfold dataF;simp,by unfold dataF;simp;omega,g.bs,fun n h=>?_,g.blk⟩;simp only[dataF,aBh,aBd,aAo] at h;rcases h with rfl | rfl | rfl | h
 ·exact hS
 ·omega
 ·have:=g.s0;have:=g.s1;omega
 ·exact g.num n h
theorem CS(h:Inv v now snaps s)(hS:0<=s.session)(hq:s.sender.2.2=[])(hs:s.sent<v.h){m:Fm}(hm:MsgOk m)(hn:∀cur:Int,0<=cur->cur<v.h->(s.sent= -1\/cur=s.sent)->NewsAt v.n snaps cur v.h m):
  Inv v now snaps { s with sender:=(s.session,(v.q:Int),[m]),sent:=(v.h:Int),offered:=[(v.h:Int)] }:=by
 have P:=h.big
 exact { h with
  sent:=by simp only;omega
  sender:= .inr ⟨hS,rfl,rfl⟩
  low:=fun c=>by simp at c
  queue:= .inr ⟨m,rfl,rfl,hm,by simp only;omega⟩
  act:=fun G=>by
   rcases h.act G with⟨A,z,B⟩|⟨A,z,B⟩
   ·refine .inl ⟨A,fun c=>by simp at c,fun E F=>?_⟩;simp only[aEw,and_true] at F;subst F;rcases z hq with c |⟨N,Q⟩
    ·exact hn v.k (by omega) (by omega) (.inr c.symm)
    ·exact hn v.k (by omega) (by omega) (.inl N)
   ·exact absurd hq z
  net:=fun y u=>by
   have u:=h.net y u;refine⟨u.bytes,u.len,u.ne,u.torn,fun H=>?_⟩;obtain⟨f,I,K,L,M⟩:=u.whole H;refine⟨f,I,K,fun C=>?_,fun C=>?_⟩
   ·rcases L C with c |⟨S,q,E,A,z,B,D,O⟩
    ·exact .inl c
    ·refine .inr ⟨S,q,E,A,z,B,fun c=>?_,O⟩;rcases D c with c |⟨_,c⟩
     ·exact .inl c
     ·rw[hq] at c;simp at c
   ·rcases M C with c |⟨S,a,A,z,B,D⟩
    ·exact .inl c
    ·refine .inr ⟨S,a,A,z,fun c=>?_,D⟩;rcases B c with c |⟨_,c,_⟩
     ·exact .inl c
     ·exact absurd hq c }
theorem AG{v:Nm}{now:List aQ}{snaps:List (List aQ)}{s:PS}(h:Inv v now snaps s):s.session<=2147483647:=by
 have z:=h.big;rcases h.session with c |⟨o,A,B,u,C⟩
 ·omega
 ·rw[u];unfold pA;omega
theorem Ns(h:Inv v now snaps s)(hS:0<=s.session){m:Fm}(hq:s.sender.2.2=[m])(hm:MsgOk m):Ha v snaps s (dataF s.session v.q m):=by
 have L:=h.big;rcases h.session with c |⟨o,D,E,u,F⟩
 ·omega
 ·refine .inr ⟨_,_,m,rfl,hm,⟨v.fb,o,u,h.pos.1,D,E,.inr ⟨rfl,by omega⟩,fun e=>by rw[F e];exact aDg _⟩,fun _=> .inr ⟨rfl,hq⟩,fun M z=>?_⟩;rcases h.first with⟨G,_⟩|⟨g,G,O,P,H⟩
  ·omega
  ·rw[H] at z;simp only at z;have A:=z;rw[u] at A;obtain⟨N,C⟩:=rU (by omega) (by omega) A;rw[C] at u;rcases h.act u with⟨I,K,B⟩|⟨I,K,B⟩
   ·exact⟨by omega,fun _=>⟨_,B m hq⟩⟩
   ·exact⟨by omega,fun c=>by omega⟩
end Go.PlMi
namespace Go.PlMi
open Go Go.Sw Go.Mo Go.Pl
open Go.PlSt (nL)
open Go.PlFr (Good bC eP cZ dH rC Dt lF Ar qH iU Ie Mg mD Ig)
variable {v:Nm}{now:List aQ}{snaps:List (List aQ)}{s:PS}
def OC(v:Nm)(s s':PS):Prop:=s'.first=s.first/\s'.session=s.session/\
 ((s.session<0/\s'.net=nN s.net (true,false,bC (kA v.fb)))\/
  (0<=s.session/\s'.sender.2.2=[]/\s'.sent=v.h/\s'.net=nN s.net (true,false,bC (kA v.fb)))\/
  (0<=s.session/\∃m,s'.sender.2.2=[m]/\MsgOk m/\(s.sender.2.2=[]->s'.sent=v.h)/\s'.net=nN (nN s.net (true,false,bC (kA v.fb))) (true,false,bC (dataF s.session v.q m))))
theorem LS(h:Inv v now snaps s):∃s',lG s=some (none,s')/\Inv v now snaps s'/\OC v s s':=by
 have aw:=h.big;have G:=h.netl;obtain⟨he,hg⟩:=Xk (g:=v.fb) (by omega);have K:Inv v now snaps { s with net:=nN s.net (true,false,bC (kA v.fb)) }:=
  h.push (Du hg true (fun _=> .inl ⟨v.fb,h.pos.1,aAi _,rfl⟩) (fun c=>nomatch c))
 have V:=Px (y:=(true,false,bC (kA v.fb))) G;have L:=Rp hg he true;have ax:=AG h;rcases h.sender with⟨F,c2,c3⟩|⟨F,c2,c3⟩
 ·
  refine⟨{ s with net:=nN s.net (true,false,bC (kA v.fb)) },?_,K,rfl,rfl,.inl ⟨by omega,rfl⟩⟩;unfold lG dS;rw[h.eboots];have A:((2:Int),([(v.fb:Int)]:List Int),([]:List aQ))=kA v.fb:=rfl;rw[A,L _ _ _ _ _ _ _ _ _ _ _ _ _ _ _ _ _ _ _ _ _ _ G,cM];have H:cm .lss s.session (0:Int)=true:=by rw[cl];exact aAs (by omega)
  simp only[aAa,pF,cM,H,aAe]
 ·have H:cm .lss s.session (0:Int)=false:=by rw[cl];exact aAc (by omega)
  have B:s.sender=(s.session,(v.q:Int),s.sender.2.2):=by rw[<-c2,<-c3]
  have X:∀(C:PS) (m:Fm),Inv v now snaps C->C.session=s.session->C.sender=(s.session,(v.q:Int),[m])->MsgOk m->
    ∃s3,s3={ C with net:=nN C.net (true,false,bC (dataF s.session v.q m)) }/\Inv v now snaps s3:=by
   intro C m hi D e4 u;refine⟨_,rfl,hi.push (Du (data_good u (by omega) (by omega)) true (fun _=>?_) (fun c=>nomatch c))⟩;have:=Ns hi (by rw[D];exact F) (m:=m) (by rw[e4]) u;rw[D] at this;exact this
  have aa:∀(m:Fm) (k:List (Bool×Bool×List Int)->Option ((Option Int)×(Int×Int×(List (Int×(List Int)×(List aQ))))×Int×(List Int)×(List (Bool×Bool×(List Int))))) (b0 b1 b2 b3 b4 b5 b6 b7 b8 b9 ac ad ae af ah ai aj ak al am an) (E:List (Bool×Bool×List Int)),E.length<=64->MsgOk m->
    lp (β:=(List (Bool×Bool×(List Int)))) (fun (I:Int×(List (Bool×Bool×(List Int))))=>
      bif (cm .lss I.1 (([bC (dataF s.session v.q m)]:List (List Int)).length:Int)) then
       (Sw.idx [bC (dataF s.session v.q m)] I.1).bind fun ao=>
        (FH ao).bind fun _=>
         (dR true (false,ao) b0 b1 b2 b3 b4 b5 b6 b7 b8 b9 ac ad ae af ah ai aj I.2 ak al am an).bind fun av=>
          some (.next ((ar .add .i64 I.1 (1:Int)),av))
      else
       some (.done (.brk I.2))
      ) ((0:Int),E) k=k (nN E (true,false,bC (dataF s.session v.q m))):=by
   intro m k b0 b1 b2 b3 b4 b5 b6 b7 b8 b9 ac ad ae af ah ai aj ak al am an E au u;have ap:=data_good u (S:=s.session) (q:=v.q) (by omega) (by omega);obtain⟨p1,p2⟩:=packed_ne ap;have aq:FH (bC (dataF s.session v.q m))=some ():=by
    unfold FH;cases hp:bC (dataF s.session v.q m) with
    |nil=>exact absurd hp p1
    |cons a l=>rfl
   unfold lp;rw[show fI=1125899906842622+1+1 from rfl,Go.PlFr.loop_next (y:=((1:Int),nN E (true,false,bC (dataF s.session v.q m)))),Go.PlFr.loop_done (b:= .brk (nN E (true,false,bC (dataF s.session v.q m))))]
   ·rfl
   ·have:Sw.idx [bC (dataF s.session v.q m)] (0:Int)=some (bC (dataF s.session v.q m)):=rfl;simp only[cl,aCw];rw[aAs (by omega),aAe,this,cM,aq,cM,He _ _ _ _ _ _ _ _ _ _ _ _ _ _ _ _ _ _ _ _ _ _ _ _ au,cM];rfl
  have ab:∀m,MsgOk m->nW (s.session,(v.q:Int),[m])=some ([bC (dataF s.session v.q m)],none):=by
   intro m u;have P:=mD (S:=s.session) (q:=(v.q:Int)) (l:=[m]) (by omega) (by omega) (by simp) (fun f N=>by simp at N;subst N;exact u.load);rw[Mg P (by omega) u.load u.blk];have:Go.PlFr.dataF (s.session,(v.q:Int),[m]) 0 m=dataF s.session v.q m:=by unfold Go.PlFr.dataF dataF;simp
   rw[this]
  rcases h.queue with⟨z,d2⟩|⟨m,z,d2,O,d4⟩
  ·
   rw[z] at B;by_cases M:s.sent<v.h
   ·
    obtain⟨m,n1,T⟩:=LO h.ep h.n0 h.n1 h.hs (by omega) h.bok (fun j l hl=>by have:=h.past _ (Hc hl);simpa using this) h.last (k:=s.sent) ⟨h.sent.1,M⟩;have u:MsgOk m:=by
     have:=h.sent;by_cases c:s.sent= -1
     ·have:=T 0 (by omega) (by omega) (.inl c);exact⟨this.load,this.blk⟩
     ·have:=T s.sent (by omega) (by omega) (.inr rfl);exact⟨this.load,this.blk⟩
    have h2:=CS K F z M u T;obtain⟨s3,D,U⟩:=X _ m h2 rfl rfl u;subst D;refine⟨_,?_,U,rfl,rfl,.inr (.inr ⟨F,m,rfl,u,fun _=>rfl,rfl⟩)⟩;unfold lG dS;rw[h.eboots];have A:((2:Int),([(v.fb:Int)]:List Int),([]:List aQ))=kA v.fb:=rfl;rw[A,L _ _ _ _ _ _ _ _ _ _ _ _ _ _ _ _ _ _ _ _ _ _ G,cM];have Q:cm .lss s.sent s.fnum=true:=by rw[cl,h.enum];exact aAs M
    have R:cm .eql (s.sender.2.2.length:Int) (0:Int)=true:=by rw[z];rfl
    simp only[aAa,pF,cM,H,Q,R,aAe,jp];rw[h.efn,h.enum,n1,cM,B,Ig (by omega) (by omega) u.load,cM];simp only[aAa,pF];rw[d2,app_small _ _ (by simp),cM];rw[ab m u,cM];simp only[];rw[aa m _ _ _ _ _ _ _ _ _ _ _ _ _ _ _ _ _ _ _ _ _ _ _ V u];simp only[cM,aBd]
   ·refine⟨{ s with net:=nN s.net (true,false,bC (kA v.fb)) },?_,K,rfl,rfl,.inr (.inl ⟨F,z,by have:=h.sent;simp only;omega,rfl⟩)⟩;unfold lG dS;rw[h.eboots];have A:((2:Int),([(v.fb:Int)]:List Int),([]:List aQ))=kA v.fb:=rfl;rw[A,L _ _ _ _ _ _ _ _ _ _ _ _ _ _ _ _ _ _ _ _ _ _ G,cM];have Q:cm .lss s.sent s.fnum=false:=by rw[cl,h.enum];exact aAc M
    simp only[aAa,pF,cM,H,Q,aAe,jp];have P:=mD (S:=s.session) (q:=(v.q:Int)) (l:=[]) (by omega) (by omega) (by simp) (fun f N=>by simp at N);rw[B,Ie P,cM];simp only[];unfold lp;rw[show fI=1125899906842623+1 from rfl,Go.PlFr.loop_done (b:= .brk (nN s.net (true,false,bC (kA v.fb))))]
    ·simp only[cM]
    ·rfl
  ·rw[z] at B;obtain⟨s3,D,U⟩:=X _ m K rfl B O;subst D;refine⟨_,?_,U,rfl,rfl,.inr (.inr ⟨F,m,z,O,fun c=>(by rw[z] at c;cases c),rfl⟩)⟩;unfold lG dS;rw[h.eboots];have A:((2:Int),([(v.fb:Int)]:List Int),([]:List aQ))=kA v.fb:=rfl;rw[A,L _ _ _ _ _ _ _ _ _ _ _ _ _ _ _ _ _ _ _ _ _ _ G,cM];have R:(bif (cm .lss s.sent s.fnum) then some (cm .eql (s.sender.2.2.length:Int) (0:Int)) else some false)=some false:=by
    rw[z];cases cm .lss s.sent s.fnum<;>rfl
   simp only[aAa,pF,cM,H];rw[R,cM];simp only[pF,jp];rw[B,ab m O,cM];simp only[];rw[aa m _ _ _ _ _ _ _ _ _ _ _ _ _ _ _ _ _ _ _ _ _ _ _ V O];simp only[cM]
end Go.PlMi
namespace Go.PlMi
open Go Go.Sw Go.Mo Go.Pl
open Go.PlSt (nL wO)
open Go.PlFr (Good bC eP cZ dH rC)
variable {v:Nm}{now:List aQ}{snaps:List (List aQ)}{s:PS}
theorem HP{g o:Nat}(hg:g<=3000)(ho:o<=3000):ar .or .i64 (sh .shl .i64 (g:Int) (12:Int)) (o:Int)=pA g o:=by
 have h:sh .shl .i64 (g:Int) (12:Int)=((g*2 ^ 12:Nat):Int):=by
  show IntKind.wrap .i64 ((g:Int)*2 ^ min ((12:Nat):Int).toNat 64)=_;rw[aAf,aB2 (by omega)];have e:(g:Int)*2 ^ 12=((g*2 ^ 12:Nat):Int):=by omega
  rw[e,wrap_i64 (by omega)]
 rw[h,Go.PlSt.orI (by omega) (by omega),Go.PlSt.orP (by omega)];unfold pA;rfl
theorem CT(h:Inv v now snaps s){g:Nat}(h1:1<=g)(h2:g<=v.fb)(h3:s.first<g):Inv { v with x:=0 } now snaps { s with first:=(g:Int),receiver:=(pA g v.ob,0) }:=by
 have aa:=h.big;have K:∀S,sA v s S->S≠pA g v.ob:=by
  rintro S ⟨C,o,G,M,N,O,P,H⟩ e;rw[G] at e;obtain⟨e1,T⟩:=rU (by omega) (by omega) e;have:=H T;omega
 have L:∀S,sA v s S->sA { v with x:=0 } { s with first:=(g:Int),receiver:=(pA g v.ob,0) } S:=by
  rintro S ⟨C,o,G,M,N,O,P,H⟩;exact⟨C,o,G,M,N,O,P,fun e=>by have:=H e;simp only;omega⟩
 exact { h with
  big:=by simp only;omega
  idle:=fun _ _=>rfl
  session:=by
   rcases h.session with c |⟨o,c1,c2,c3,I⟩
   ·exact .inl c
   ·exact .inr ⟨o,c1,c2,c3,fun e=>by have:=I e;simp only;omega⟩
  first:= .inr ⟨g,h1,h2,rfl,rfl⟩
  act:=fun E=>by
   simp only at E;rcases h.session with c |⟨o,c1,c2,c3,I⟩
   ·have:=xW v.fb v.ob;omega
   ·rw[c3] at E;have:=I (rU (by omega) (by omega) E).2;omega
  net:=fun y u=>by
   have u:=h.net y u;refine⟨u.bytes,u.len,u.ne,u.torn,fun R=>?_⟩;obtain⟨f,U,V,X,g4⟩:=u.whole R;refine⟨f,U,V,fun F=>?_,fun F=>?_⟩
   ·rcases X F with c |⟨S,q,m',B,z,A,D,Q⟩
    ·exact .inl c
    ·exact .inr ⟨S,q,m',B,z,L S A,D,fun _ c=>absurd c (K S A)⟩
   ·rcases g4 F with⟨C,o,j,t,B,z,A,D,Q,a6,a7,a8⟩|⟨S,a,B,z,A,D⟩
    ·refine .inl ⟨C,o,j,t,B,z,A,D,Q,a6,a7,fun c d e=>?_⟩;have:=(a8 c d e).2.1;omega
    ·exact .inr ⟨S,a,B,L S z,A,fun _ c=>absurd c (K S z)⟩}
theorem Rq{g o j:Nat}{t:List Int}(hg:g<=2147483647)(ho:o<=2147483647)(hj:j<=2147483647){x y:Int}(ht:t=[x,y])(hx:0<=x/\x<=2147483647)(hy:0<=y/\y<=2147483647):dH (eO g o j t)=0/\Good (eO g o j t):=by
 subst ht
 have u:cZ (eO g o j [x,y])=0:=Ki (by unfold eO;simp only;omega) (by unfold eO;simp) (by unfold eO;simp) (fun n h=>by
  simp only[eO,aBh,aBd,aAo,aCs,aEu] at h
  rcases h with rfl | rfl | rfl | rfl | rfl<;>omega)
 have:=(Go.PlFr.load_frame u).1;exact⟨this,rC this (fun b z=>by simp[eO] at z)⟩
theorem El(h:Inv v now snaps s){g:Nat}(h1:1<=g)(h2:g<=v.fb)(h3:s.first=g){t:List Int}(ht:jK (snaps.getD v.k [])=some t):Hb v snaps s (eO g v.ob v.k t):=by
 have:=h.pos;exact .inl ⟨g,v.ob,v.k,t,rfl,h1,h2,h.pos.2,aAi _,aAi _,ht,fun c _ e=>⟨rfl,by rw[h3,c],h.idle (by rw[h3,c]) (by rw[c] at e;exact e)⟩⟩
theorem Ii(h:Inv v now snaps s)(h0:0<=s.first)(hs:s.session=s.receiver.1):s.session=pA v.fb v.ob:=by
 have B:=h.big;rcases h.first with⟨A,_⟩|⟨g,A,C,D,u⟩
 ·omega
 ·rcases h.session with c |⟨o,E,F,z,G⟩
  ·rw[u] at hs;have:=xW g v.ob;simp only at hs;omega
  ·rw[u,z] at hs;rw[z,(rU (by omega) (by omega) hs).2]
theorem AH(h:Inv v now snaps s)(h0:0<=s.first)(ha:sA v s s.receiver.1):Hb v snaps s (zF s.receiver.1 v.x):=by
 refine .inr ⟨_,v.x,rfl,ha,fun c=>?_,fun _ _=>aAi _⟩;rcases h.act (Ii h h0 c.symm) with⟨u,_⟩|⟨u,z,A⟩
 ·exact .inl (by omega)
 ·exact .inr ⟨u,z,by omega⟩
theorem HQ(h:Inv v now snaps s)(hx:v.x+1<=100000)(h0:0<=s.first)(ha:sA v s s.receiver.1){to:Nat}(hlt:v.k<to)(hle:to<=v.h){d':(List aQ)×(List (Int×aQ))×Int}(hd:nL d' (snaps.getD to []) to v.ob)
  (hq:s.session=s.receiver.1->v.x=v.q/\s.sender.2.2≠ []/\s.sent=to):
  Inv { v with k:=to,x:=v.x+1 } now snaps { s with onum:=(to:Int),receiver:=(s.receiver.1,((v.x+1:Nat):Int)),osn:=(v.n:Int),od:=d' }:=by
 have aa:=h.big;have ab:=h.safe;have Q:s.session=pA v.fb v.ob->s.session=s.receiver.1:=by
  intro e;rcases h.session with c |⟨o,O,P,K,c4⟩
  ·have:=xW v.fb v.ob;omega
  ·rw[K] at e;have F:=(rU (by omega) (by omega) e).2;rcases h.first with⟨z,_⟩|⟨g,z,G,H,d4⟩
   ·omega
   ·have:=c4 F;have u:g=v.fb:=by omega
    rw[d4,K,u,F]
 exact { h with
  big:=by simp only;omega
  eonum:=rfl
  kh:=hle
  seenO:=hd
  eosn:=rfl
  safe:=by simp only;omega
  idle:=fun c d=>by
   obtain⟨M,o,C,R,T,U,D,V⟩:=ha;rcases h.first with⟨z,_⟩|⟨g,z,G,H,d4⟩
   ·omega
   ·simp only at c d;have u:g=v.fb:=by omega
    rw[d4,u] at C;obtain⟨X,F⟩:=rU (by omega) (by omega) C;rw[d4,u] at D;simp only at D;omega
  first:=by
   rcases h.first with⟨z,_⟩|⟨g,z,G,H,d4⟩
   ·omega
   ·exact .inr ⟨g,z,G,H,by simp only;rw[d4]⟩
  act:=fun e=>by
   obtain⟨a1,a2,B⟩:=hq (Q e);exact .inr ⟨by simp only;omega,a2,B⟩
  net:=fun y A=>by
   have A:=h.net y A;refine⟨A.bytes,A.len,A.ne,A.torn,fun u=>?_⟩;obtain⟨f,g1,N,g3,g4⟩:=A.whole u;refine⟨f,g1,N,fun I=>?_,fun I=>?_⟩
   ·rcases g3 I with c |⟨S,q,m',a1,a2,B,E,L⟩
    ·exact .inl c
    ·refine .inr ⟨S,q,m',a1,a2,B,E,fun c d=>?_⟩;have:=(L c d).1;exact⟨by simp only;omega,fun e=>by simp only at e;omega⟩
   ·rcases g4 I with⟨M,o,j,t,a1,a2,B,E,L,a6,a7,a8⟩|⟨S,a,a1,a2,B,E⟩
    ·refine .inl ⟨M,o,j,t,a1,a2,B,E,L,by simp only;omega,a7,fun c d e=>?_⟩;have hf:=(a8 c d e).2.1;obtain⟨N,o2,C,R,T,U,D,V⟩:=ha;rcases h.first with⟨z,_⟩|⟨g,z,G,H,d4⟩
     ·omega
     ·simp only at c d e;have u:g=v.fb:=by omega
      rw[d4,u] at C;obtain⟨X,F⟩:=rU (by omega) (by omega) C;rw[d4,u] at D;simp only at D;rw[c,d] at e;omega
    ·refine .inr ⟨S,a,a1,a2,fun c=>?_,fun c d=>by have:=E c d;simp only;omega⟩;rcases B c with c |⟨O,P,K⟩
     ·exact .inl c
     ·exact .inr ⟨O,P,by simp only;omega⟩}
end Go.PlMi
namespace Go.PlMi
open Go Go.Sw Go.Mo Go.Pl
open Go.PlSt (nL wO)
open Go.PlFr (Good bC eP cZ dH rC Gv Mf rD lF)
variable {v:Nm}{now:List aQ}{snaps:List (List aQ)}{s:PS}
theorem CU(dir:Bool)(b:List Int)(b0 b1 b2 b3 b4 b5 b6 b7 b8 b9 b10 b11 b12 b13 b14 b15 b16 b17 b18 b19 b20 b21):
  dR dir (true,b) b0 b1 b2 b3 b4 b5 b6 b7 b8 b9 b10 b11 b12 b13 b14 b15 b16 b17 b18 b19 b20 b21=some b17:=rfl
theorem Jl(h:Inv v now snaps s)(h0:0<=s.first):(0<=s.receiver.1/\s.receiver.1<=2147483647)/\s.receiver.2=v.x:=by
 have A:=h.big;rcases h.first with⟨u,_⟩|⟨g,u,B,C,z⟩
 ·omega
 ·rw[z];refine⟨?_,rfl⟩;show 0<=pA g v.ob/\pA g v.ob<=2147483647;unfold pA;omega
theorem Mk(b:List Int)(u:Fm)(e:Option Int)(hu:eX b=some (u,e))(hn:e.isSome=true\/u.1≠2)
  (hr:0<=s.first->∃fr,nH s.receiver b=some (s.receiver,fr,false,(true,[]),none)):dP b s=some (none,s):=by
 unfold dP bW;have A:(bif Option.isNone e then bif cm .eql u.1 (2:Int) then some (cm .eql (u.2.1.length:Int) (1:Int)) else some false else some false)=some false:=by
  rcases hn with c | c
  ·cases e with
   |none=>cases c
   |some e=>rfl
  ·have:cm .eql u.1 (2:Int)=false:=by rw[ce];exact aAc c
   rw[this];cases e<;>rfl
 rw[hu,cM];simp only[];rw[A,cM];simp only[pF];by_cases z:s.first<0
 ·have h:cm .lss s.first (0:Int)=true:=by rw[cl];exact aAs z
  rw[h];simp only[aAe,cM]
 ·have h:cm .lss s.first (0:Int)=false:=by rw[cl];exact aAc z
  obtain⟨fr,hr⟩:=hr (by omega);rw[h,hr];simp only[pF,cM,aAa,jp,CU]
def LU(v:Nm)(snaps:List (List aQ))(s s':PS)(x':Nat):Prop:=s'.first=v.fb/\s'.session=s.session/\s'.sender=s.sender/\s'.sent=s.sent/\s'.safe=s.safe/\(s.first=v.fb->x'=v.x)/\
 ∃x y,jK (snaps.getD v.k [])=some [x,y]/\s'.net=nN s.net (false,false,bC (eO v.fb v.ob v.k [x,y]))
theorem CV(h:Inv v now snaps s){b:List Int}{g:Nat}(h1:1<=g)(h2:g<=v.fb)(hu:eX b=some (kA g,none)):
  ∃x' s',x'<=v.x/\dP b s=some (none,s')/\Inv { v with x:=x' } now snaps s'/\Ro s s'/\(g=v.fb->LU v snaps s s' x'):=by
 have R:=h.big;have S:=h.kh;have T:=h.hs;have U:=h.n1;have V:=h.n0;have H:snaps.getD v.k []∈snaps:=by
  rw[aAl,aAg (by omega)];exact aBk _
 have M:(snaps.getD v.k []).length=v.n:=h.ep.len _ H;have A:=wO h.seenO;rw[M,<-h.eosn] at A;obtain⟨x,y,u,O,P⟩:=HK (bs:=snaps.getD v.k []) (by omega) (by omega) (h.bok _ H);obtain⟨L,D⟩:=Rq (g:=g) (o:=v.ob) (j:=v.k) (t:=[x,y]) (by omega) (by omega) (by omega) rfl O P;have I:((3:Int),([(g:Int),(v.ob:Int),(v.k:Int)]++[x,y]:List Int),([]:List aQ))=eO g v.ob v.k [x,y]:=rfl;have E:Sw.idx (kA g).2.1 (0:Int)=some (g:Int):=rfl;have F:cm .eql (kA g).1 (2:Int)=true:=rfl;have G:cm .eql ((kA g).2.1.length:Int) (1:Int)=true:=rfl;by_cases N:s.first<g
 ·have K:=CT h h1 h2 N;refine⟨0,{ s with first:=(g:Int),receiver:=(pA g v.ob,0),net:=nN s.net (false,false,bC (eO g v.ob v.k [x,y])) },by omega,?_,K.push (Du D false (fun c=>nomatch c) (fun _=>El K h1 h2 rfl u)),.inr ⟨_,rfl⟩,fun e=>by subst e;exact⟨rfl,rfl,rfl,rfl,rfl,fun c=>by omega,x,y,u,rfl⟩⟩;unfold dP bW;have B:cm .gtr (g:Int) s.first=true:=by rw[cg];exact aAs (by omega)
  have z:cm .lss (g:Int) (g:Int)=false:=by rw[cl];exact aAc (by omega)
  rw[hu,cM];simp only[aBf,aAe,F,G,cM,E,B,jp];rw[A,cM];simp only[aAa,pF,cM,z];rw[u,cM,app_small _ _ (by simp),cM,h.eoboots,h.eonum,HP (by omega) (by omega),I,Rp D L _ _ _ _ _ _ _ _ _ _ _ _ _ _ _ _ _ _ _ _ _ _ _ h.netl];rfl
 ·have B:cm .gtr (g:Int) s.first=false:=by rw[cg];exact aAc (by omega)
  by_cases C:s.first=g
  ·refine⟨v.x,{ s with net:=nN s.net (false,false,bC (eO g v.ob v.k [x,y])) },aAi _,?_,h.push (Du D false (fun c=>nomatch c) (fun _=>El h h1 h2 C u)),.inr ⟨_,rfl⟩,fun e=>by subst e;exact⟨C,rfl,rfl,rfl,rfl,fun _=>rfl,x,y,u,rfl⟩⟩;unfold dP bW;have z:cm .lss (g:Int) s.first=false:=by rw[cl];exact aAc (by omega)
   rw[hu,cM];simp only[aBf,aAe,F,G,cM,E,B,jp,pF];rw[A,cM];simp only[aAa,pF,cM,z];rw[u,cM,app_small _ _ (by simp),cM,h.eoboots,h.eonum,C,I,Rp D L _ _ _ _ _ _ _ _ _ _ _ _ _ _ _ _ _ _ _ _ _ _ _ h.netl];rw[<-C,<-h.eonum];rfl
  ·refine⟨v.x,s,aAi _,?_,h,.inl rfl,fun e=>by exfalso;rcases h.first with⟨Q,_⟩|⟨X,Q,d2,d3,_⟩<;>omega⟩;unfold dP bW;have z:cm .lss (g:Int) s.first=true:=by rw[cl];exact aAs (by omega)
   rw[hu,cM];simp only[aBf,aAe,F,G,cM,E,B,jp,pF];rw[A,cM];simp only[aAa,pF,cM,z,aAe]
def OD(v:Nm)(s s':PS)(k' x':Nat)(S:Int)(q:Nat):Prop:=(S≠s.receiver.1->s'=s/\k'=v.k/\x'=v.x)/\
 (0<=s.first->S=s.receiver.1->S=s.session->q=v.q->x'=v.q+1/\s'.first=s.first/\s'.session=s.session/\s'.sender=s.sender/\s'.sent=s.sent/\s'.safe=s.safe/\s'.net=nN s.net (false,false,bC (zF S (v.q+1))))
theorem HR(h:Inv v now snaps s)(hbx:v.x+1<=100000){b:List Int}(hb:Bytes b)(hbl:b.length<=2000){S:Int}{q:Nat}{m:Fm}(hf:eP b=some (dataF S q m))(hm:MsgOk m)(ha:sA v s S)
  (hs:S=s.session->q<v.q\/(q=v.q/\s.sender.2.2=[m])) (hr:0<=s.first->S=s.receiver.1->q<=v.x/\(q=v.x->∃to,NewsAt v.n snaps v.k to m)):
  ∃k' x' s',v.k<=k'/\x'<=v.x+1/\dP b s=some (none,s')/\Inv { v with k:=k',x:=x' } now snaps s'/\Ro s s'/\OD v s s' k' x' S q:=by
 have al:=h.big;have am:=h.kh;have an:=h.hs;have U:=h.n1;have V:=h.n0;have B:=rD b hb (by omega);rw[hf] at B;simp only at B;by_cases X:s.first<0
 ·exact⟨v.k,v.x,s,aAi _,by omega,Mk b _ none B (.inr (by unfold dataF;simp)) (fun c=>by omega),h,.inl rfl,fun _=>⟨rfl,rfl,rfl⟩,fun c=>absurd c (by omega)⟩
 ·obtain⟨ah,ai⟩:=Jl h (by omega);have A:=Mf s.receiver b hb hbl ah (by omega);rw[hf] at A;by_cases u:S=s.receiver.1
  ·obtain⟨aw,aj⟩:=hr (by omega) u;have aa:=(Go.PlFr.load_frame hm.load)
   have ab:=rC aa.1 hm.blk;have ac:=ab.s1;have E:(dataF S q m).1=1/\3<=(dataF S q m).2.1.length/\(dataF S q m).2.1.getD 0 0=s.receiver.1/\(dataF S q m).2.1.getD 2 0<=15:=by
    refine⟨rfl,by unfold dataF;simp,u,ac⟩
   have ad:(dataF S q m).2.1.getD 1 0=q:=rfl;have ae:((dataF S q m).2.1.getD 2 0,(dataF S q m).2.1.drop 3,(dataF S q m).2.2)=m:=rfl;unfold Gv at A;simp only[aAn E,ad,ae] at A;have I:cm .eql (dataF S q m).1 (2:Int)=false:=rfl;have K:cm .lss s.first (0:Int)=false:=by rw[cl];exact aAc X
   have L:∀a:Nat,a<=2147483647->Good (zF s.receiver.1 a):=fun a av=>by
    refine⟨by unfold zF;simp,by unfold zF;simp,by unfold zF;simp,by unfold zF;simp,fun n P=>?_,fun b hb=>by simp[zF] at hb⟩;simp only[zF,aAo,aCs,aEu] at P;rcases P with rfl | rfl<;>omega
   by_cases M:(q:Int)=s.receiver.2/\s.receiver.2<2147483647
   ·rw[aAn M] at A;simp only at A;have N:q=v.x:=by omega
    obtain⟨to,C⟩:∃to,NewsAt v.n snaps v.k to m/\(s.session=s.receiver.1->v.x=v.q/\s.sender.2.2≠ []/\s.sent=to):=by
     by_cases c:s.session=s.receiver.1
     ·rcases h.act (Ii h (by omega) c) with⟨D,a2,T⟩|⟨D,a2,T⟩
      ·rcases hs (by rw[u,c]) with d |⟨d1,H⟩
       ·omega
       ·exact⟨s.sent,T m H,fun _=>⟨D,by rw[H];simp,rfl⟩⟩
      ·rcases hs (by rw[u,c]) with d |⟨d1,H⟩<;>omega
     ·obtain⟨to,e⟩:=aj N;exact⟨to,e,fun d=>absurd d c⟩
    obtain⟨C,ak⟩:=C;have ao:=C.lt;have ap:=C.le;have aq:=C.nn;let s1:PS:={ s with receiver:=(s.receiver.1,s.receiver.2+1) }
    obtain⟨d',sd,et⟩:=LM (s:=s1) (snaps:=snaps) (n:=v.n) h.seenO rfl V U h.ep.len h.eonum (by omega) (by omega) h.eoboots (by omega) h.eon h.eosn C;have O:s.receiver.2+1=((v.x+1:Nat):Int):=by omega
    have F:=HQ h hbx (by omega) (by rw[<-u];exact ha) (to:=to.toNat) (by omega) (by omega) sd (fun c=>by obtain⟨c1,c2,c3⟩:=ak c;exact⟨c1,c2,by omega⟩);have af:((to.toNat:Nat):Int)=to:=by omega
    rw[af,<-O] at F
    have G:=AH F (by simp only;omega) (by
     obtain⟨g,o,Q,b2,b3,b4,R,b6⟩:=ha;rw[u] at Q R
     exact⟨g,o,Q,b2,b3,b4,R,b6⟩)
    refine⟨to.toNat,v.x+1,_,by omega,aAi _,?_,F.push (Du (L (v.x+1) (by omega)) false (fun c=>nomatch c) (fun _=>G)),.inr ⟨_,rfl⟩,fun c=>absurd u c,fun _ _ _ e=>⟨by omega,rfl,rfl,rfl,rfl,rfl,by rw[u,<-e,N]⟩⟩;unfold rE at et;unfold dP bW;rw[B,cM];simp only[aBf,aAe,I,cM,pF,K];rw[A,cM];simp only[aAa,pF,aAe,jp];cases hz:eN m s.n s.fn s.fnum s.boots s.blocks s.epochs s.past s.session s.sender s.sent s.safe s.offered s.on s.onum s.oboots s.first (s.receiver.1,s.receiver.2+1) s.net s.fsn s.fd s.osn s.od with
    |none=>simp only[s1] at et;rw[hz] at et;cases et
    |some z=>
     simp only[s1] at et;rw[hz,cM] at et;simp only[aAk,aBg,PS.mk.injEq] at et;rw[cM];simp only[et,aAa,pF];rw[He _ _ _ _ _ _ _ _ _ _ _ _ _ _ _ _ _ _ _ _ _ _ _ _ h.netl];simp only[cM,O];rfl
   ·have au:¬q=v.x:=by omega
    rw[aAj M] at A;simp only at A;have G:=AH h (by omega) (by rw[<-u];exact ha);refine⟨v.k,v.x,_,aAi _,by omega,?_,h.push (Du (L v.x (by omega)) false (fun c=>nomatch c) (fun _=>G)),.inr ⟨_,rfl⟩,fun c=>absurd u c,fun _ _ c e=>(fun (z:v.x=v.q+1)=>⟨z,rfl,rfl,rfl,rfl,rfl,by rw[u,<-z]⟩) (by rcases h.act (Ii h (by omega) (by rw[<-c,u])) with⟨D,_⟩|⟨D,_⟩<;>omega)⟩;unfold dP bW;rw[B,cM];simp only[aBf,aAe,I,cM,pF,K];rw[A,cM];simp only[aAa,pF,jp];rw[He _ _ _ _ _ _ _ _ _ _ _ _ _ _ _ _ _ _ _ _ _ _ _ _ h.netl];simp only[cM,ai];rfl
  ·refine⟨v.k,v.x,s,aAi _,by omega,Mk b _ none B (.inr (by unfold dataF;simp)) (fun _=>⟨(0,[],[]),?_⟩),h,.inl rfl,fun _=>⟨rfl,rfl,rfl⟩,fun _ c=>absurd c u⟩;rw[A];have E:¬((dataF S q m).1=1/\3<=(dataF S q m).2.1.length/\(dataF S q m).2.1.getD 0 0=s.receiver.1/\(dataF S q m).2.1.getD 2 0<=15):=fun c=>u c.2.2.1;unfold Gv;simp only[aAj E]
theorem Uy(h:Inv v now snaps s)(hbx:v.x+1<=100000){y:Bool×Bool×List Int}(hy:NetOk v snaps s y)(hd:y.1=true):
  ∃k' x' s',v.k<=k'/\x'<=v.x+1/\dP y.2.2 s=some (none,s')/\Inv { v with k:=k',x:=x' } now snaps s'/\Ro s s':=by
 have E:=hy.len;have u:=rD y.2.2 hy.bytes (by omega);by_cases z:y.2.1=true
 ·rw[hy.torn z] at u;refine⟨v.k,v.x,s,aAi _,by omega,Mk _ _ _ u (.inl rfl) (fun H=>⟨(0,[],[]),?_⟩),h,.inl rfl⟩;obtain⟨I,U⟩:=Jl h H;have T:=h.big;rw[Mf s.receiver _ hy.bytes E I (by omega),hy.torn z];rfl
 ·obtain⟨f,K,L,M,_⟩:=hy.whole (by simpa using z);have F:eP y.2.2=some f:=by rw[L];exact lF K
  rw[F] at u;rcases M hd with⟨g,O,D,rfl⟩|⟨S,q,m,rfl,D,P,Q,R⟩
  ·obtain⟨x',s',G,A,B,C,_⟩:=CV h O D u;exact⟨v.k,x',s',aAi _,by omega,A,B,C⟩
  ·obtain⟨k',x',s',G,A,B,C,N,_⟩:=HR h hbx hy.bytes E F D P Q R;exact⟨k',x',s',G,A,B,C,N⟩
end Go.PlMi
namespace Go.PlMi
open Go Go.Sw Go.Mo Go.Pl
open Go.PlSt (nL wO)
open Go.PlFr (Good bC eP cZ dH rC Fl zE rD lF mD)
variable {v:Nm}{now:List aQ}{snaps:List (List aQ)}{s:PS}
theorem TB(x y:Int):iR [x,y] [x,y]=some true:=by
 unfold iR;have e:cm .neq (([x,y]:List Int).length:Int) (([x,y]:List Int).length:Int)=false:=by rw[cn];simp
 rw[e,pF];unfold lp;rw[show fI=1125899906842621+1+1+1 from rfl,Go.PlFr.loop_next (y:=(1:Int)),Go.PlFr.loop_next (y:=(2:Int)),Go.PlFr.loop_done (b:= .brk ())]
 ·rfl
 ·have h:Sw.idx [x,y] (1:Int)=some y:=rfl;have u:cm .neq y y=false:=by rw[cn];simp
  have z:cm .lss (1:Int) (([x,y]:List Int).length:Int)=true:=rfl;rw[z,aAe,h,cM,cM,u,pF];rfl
 ·have h:Sw.idx [x,y] (0:Int)=some x:=rfl;have u:cm .neq x x=false:=by rw[cn];simp
  have z:cm .lss (0:Int) (([x,y]:List Int).length:Int)=true:=rfl;rw[z,aAe,h,cM,cM,u,pF];rfl
theorem Inv.setEp(h:Inv v now snaps s){e}(he:EpM v.n e now snaps):Inv v now snaps { s with epochs:=e }:=
 { h with
  ep:=he
  net:=fun y u=>(h.net y u).same rfl rfl rfl rfl rfl }
theorem Py(h:Inv v now snaps s){o j:Nat}(h1:1<=o)(h2:o<=v.ob)(hj:j<=v.k)(hlt:s.session<pA v.fb o)
  (ha:o=v.ob->s.session<pA v.fb o->j=v.k/\s.first=(v.fb:Int)/\v.x=0) {sent:Int} (hsent:sent=j\/(sent= -1/\j<v.h)):
  Inv { v with q:=0 } now snaps { s with session:=pA v.fb o,sender:=(pA v.fb o,0,[]),sent:=sent,safe:=max s.safe (j:Int),offered:=[] }:=by
 have aa:=h.big;have ab:=h.kh;have ac:=h.safe;have C:∀S,sA v s S->S≠pA v.fb o/\sA { v with q:=0 } { s with session:=pA v.fb o,sender:=(pA v.fb o,0,[]),sent:=sent,safe:=max s.safe (j:Int),offered:=[] } S:=by
  rintro S ⟨F,G,H,X,b3,b4,M,b6⟩;refine⟨fun e=>?_,F,G,H,X,b3,b4,?_,b6⟩
  ·rw[H] at e;obtain⟨P,Q⟩:=rU (by omega) (by omega) e;rcases M with c |⟨I,K⟩
   ·omega
   ·rw[H,P,Q] at K;omega
  ·rcases M with c |⟨I,K⟩
   ·exact .inl c
   ·exact .inr ⟨I,by simp only;omega⟩
 exact { h with
  big:=by simp only;omega
  safe:=by simp only;omega
  sent:=by simp only;omega
  low:=fun _=>by simp only;omega
  idle:=fun c d=>h.idle c (by simp only at d;omega)
  session:= .inr ⟨o,h1,h2,rfl,fun e=>(ha e hlt).2.1⟩
  sender:= .inr ⟨xW _ _,rfl,rfl⟩
  queue:= .inl ⟨rfl,rfl⟩
  act:=fun e=>by
   simp only at e;obtain⟨B,z,A⟩:=ha (rU (by omega) (by omega) e).2 hlt;refine .inl ⟨A,fun _=>?_,fun m N=>by simp at N⟩;simp only;rcases hsent with c |⟨I,K⟩
   ·left;omega
   ·right;omega
  net:=fun y u=>by
   have u:=h.net y u;refine⟨u.bytes,u.len,u.ne,u.torn,fun O=>?_⟩;obtain⟨f,R,T,U,V⟩:=u.whole O;refine⟨f,R,T,fun E=>?_,fun E=>?_⟩
   ·rcases U E with c |⟨S,q,m',B,z,A,D,L⟩
    ·exact .inl c
    ·exact .inr ⟨S,q,m',B,z,(C S A).2,fun c=>absurd c (C S A).1,L⟩
   ·rcases V E with⟨F,G,j',t',B,z,A,D,L,a6,a7,a8⟩|⟨S,a,B,z,A,D⟩
    ·exact .inl ⟨F,G,j',t',B,z,A,D,L,a6,a7,fun c d e=>a8 c d (by simp only at e;omega)⟩
    ·exact .inr ⟨S,a,B,(C S z).2,fun c=>absurd c (C S z).1,D⟩}
theorem CW(h:Inv v now snaps s)(hbq:v.q+1<=100000)(h0:0<=s.session){m:Fm}(hq:s.sender.2.2=[m])(hk:s.sent<=v.k):
  Inv { v with q:=v.q+1 } now snaps { s with sender:=(s.session,((v.q+1:Nat):Int),[]),safe:=max s.safe s.sent,offered:=[] }:=by
 have K:=h.big;have L:=h.kh;have M:=h.safe
 exact { h with
  big:=by simp only;omega
  safe:=by simp only;omega
  low:=fun _=>by simp only;omega
  sender:= .inr ⟨h0,rfl,rfl⟩
  queue:= .inl ⟨rfl,rfl⟩
  act:=fun e=>by
   rcases h.act e with⟨a1,a2,a3⟩|⟨a1,a2,a3⟩
   ·have:=(a3 m hq).lt;omega
   ·exact .inl ⟨by simp only;omega,fun _=> .inl a3,fun m B=>by simp at B⟩
  net:=fun y u=>by
   have u:=h.net y u;refine⟨u.bytes,u.len,u.ne,u.torn,fun C=>?_⟩;obtain⟨f,D,E,F,G⟩:=u.whole C;refine⟨f,D,E,fun z=>?_,fun z=>?_⟩
   ·rcases F z with c |⟨S,q,H,a1,a2,a3,A,I⟩
    ·exact .inl c
    ·exact .inr ⟨S,q,H,a1,a2,a3,fun c=> .inl (by have:=A c;simp only;omega),I⟩
   ·rcases G z with c |⟨S,a,a1,a2,a3,A⟩
    ·exact .inl c
    ·exact .inr ⟨S,a,a1,a2,fun c=> .inl (by have:=a3 c;simp only;omega),A⟩}
def Xl(v:Nm)(u:Fm)(e:Option Int):Prop:=e.isSome=true\/u.1≠3\/∃g o j x y,u=eO g o j [x,y]/\g≠v.fb
theorem Pz{u:Fm}{e:Option Int}(h:Xl v u e):(bif (Option.isNone e) then
  bif (cm .eql u.1 (3:Int)) then
   bif (cm .eql (u.2.1.length:Int) (5:Int)) then
    (Sw.idx u.2.1 (0:Int)).bind fun z10=>
     some (cm .eql z10 (v.fb:Int))
   else
    some false
  else
   some false
  else
   some false)=some false:=by
 rcases h with c | c |⟨g,o,j,x,y,rfl,D⟩
 ·cases e with
  |none=>cases c
  |some e=>rfl
 ·have:cm .eql u.1 (3:Int)=false:=by rw[ce];exact aAc c
  rw[this];cases e<;>rfl
 ·have z:cm .eql (eO g o j [x,y]).1 (3:Int)=true:=rfl;have A:cm .eql ((eO g o j [x,y]).2.1.length:Int) (5:Int)=true:=rfl;have B:Sw.idx (eO g o j [x,y]).2.1 (0:Int)=some (g:Int):=rfl;have C:cm .eql (g:Int) (v.fb:Int)=false:=by rw[ce];exact aAc (by omega)
  rw[z,A,B,cM,C];cases e<;>rfl
theorem Hf(h:Inv v now snaps s){b:List Int}{u:Fm}{e:Option Int}(hu:eX b=some (u,e))(hn:Xl v u e)
  (hh:0<=s.session->qZ s.sender b=some (s.sender,none)):∃s',eE b s=some (none,s')/\Inv v now snaps s'/\s'.net=s.net:=by
 have H:=h.big;have I:=h.safe;have K:=h.kh;have L:s.epochs.1=v.h:=by have:=h.ep.num;have:=h.hs;omega
 have A:=Pz hn;by_cases B:s.session<0
 ·refine⟨s,?_,h,rfl⟩;unfold eE cC;have z:cm .lss s.session (0:Int)=true:=by rw[cl];exact aAs B
  rw[hu,cM,h.eboots];simp only[];rw[A];simp only[cM,pF,z,aAe];rw[<-h.eboots]
 ·obtain⟨F,G⟩:=h.ep.drop (num:=min s.safe s.epochs.1) (by omega);refine⟨_,?_,h.setEp G,rfl⟩;unfold eE cC;have z:cm .lss s.session (0:Int)=false:=by rw[cl];exact aAc B
  rw[hu,cM,h.eboots];simp only[];rw[A];simp only[cM,pF,z];rw[hh (by omega)];simp only[cM,aAa,pF];have C:ar .sub .i64 (s.sender.2.2.length:Int) (s.sender.2.2.length:Int)=0:=by rw[subI (by omega)];omega
  have D:Sw.sub s.offered (0:Int) 0=some []:=by unfold Sw.sub;rw[aAn (by omega)];rfl
  have E:Sw.sub s.offered (0:Int) (s.offered.length:Int)=some s.offered:=by unfold Sw.sub;rw[aAn (by omega)];simp
  rw[C,D,cM];unfold lp;rw[show fI=1125899906842623+1 from rfl,Go.PlFr.loop_done (b:= .brk s.safe)]
  ·simp only[];rw[E,cM,h.efn,F,cM];rw[<-h.eboots,<-h.efn];rfl
  ·rfl
end Go.PlMi
namespace Go.PlMi
open Go Go.Sw Go.Mo Go.Pl
open Go.PlSt (nL wO)
open Go.PlFr (Good bC eP cZ dH rC Fl zE rD lF mD iU)
variable {v:Nm}{now:List aQ}{snaps:List (List aQ)}{s:PS}
def QS(v:Nm)(s s':PS)(q' o j:Nat):Prop:=s'.first=s.first/\(s.session<pA v.fb o->s'.session=pA v.fb o/\s'.sender.2.2=[])/\(¬s.session<pA v.fb o->s'=s/\q'=v.q)
theorem Uz(h:Inv v now snaps s){b:List Int}{o j:Nat}{x y:Int}(hu:eX b=some (eO v.fb o j [x,y],none))(h1:1<=o)(h2:o<=v.ob)(hj:j<=v.k)(ht:jK (snaps.getD j [])=some [x,y])
  (ha:o=v.ob->s.session<pA v.fb o->j=v.k/\s.first=(v.fb:Int)/\v.x=0):∃q' s',q'<=v.q/\eE b s=some (none,s')/\Inv { v with q:=q' } now snaps s'/\s'.net=s.net/\QS v s s' q' o j:=by
 have M:=h.big;have N:=h.kh;have A:Sw.idx (eO v.fb o j [x,y]).2.1 (0:Int)=some (v.fb:Int):=rfl;have B:Sw.idx (eO v.fb o j [x,y]).2.1 (1:Int)=some (o:Int):=rfl;have H:Sw.idx (eO v.fb o j [x,y]).2.1 (2:Int)=some (j:Int):=rfl;have C:cm .eql (eO v.fb o j [x,y]).1 (3:Int)=true:=rfl;have D:cm .eql ((eO v.fb o j [x,y]).2.1.length:Int) (5:Int)=true:=rfl;have E:cm .eql (v.fb:Int) (v.fb:Int)=true:=by rw[ce];simp
 have K:Sw.sub (eO v.fb o j [x,y]).2.1 (3:Int) ((eO v.fb o j [x,y]).2.1.length:Int)=some [x,y]:=rfl;have F:=HP (g:=v.fb) (o:=o) (by omega) (by omega);by_cases u:s.session<pA v.fb o
 ·have z:cm .gtr (pA v.fb o) s.session=true:=by rw[cg];exact aAs u
  cases hp:eV s.past (j:Int) with
  |none=>
   have L:j<v.h:=by
    rcases aBc j v.h with c | c
    ·exact c
    ·have:j=v.h:=by omega
     rw[this,h.last] at hp;cases hp
   have G:=Py h h1 h2 hj u ha (sent:= -1) (.inr ⟨rfl,L⟩);refine⟨0,_,by omega,?_,G,rfl,rfl,fun _=>⟨rfl,rfl⟩,fun c=>absurd u c⟩;unfold eE cC;rw[hu,cM,h.eboots];simp only[aBf,aAe,C,D,A,B,H,E,cM,F,z,jp,hp,aAa,aCg]
  |some l=>
   have I:=h.past _ (Hc hp);simp only[aAf] at I;rw[<-I.2.2] at ht;have G:=Py h h1 h2 hj u ha (sent:=(j:Int)) (.inl rfl);refine⟨0,_,by omega,?_,G,rfl,rfl,fun _=>⟨rfl,rfl⟩,fun c=>absurd u c⟩;unfold eE cC;rw[hu,cM,h.eboots];simp only[aBf,aAe,C,D,A,B,H,E,cM,F,z,jp,hp,aCu,aBz,pF,aCe,ht,K,TB]
 ·have z:cm .gtr (pA v.fb o) s.session=false:=by rw[cg];exact aAc u
  refine⟨v.q,s,aAi _,?_,h,rfl,rfl,fun c=>absurd c u,fun _=>⟨rfl,rfl⟩⟩;unfold eE cC;rw[hu,cM,h.eboots];simp only[aBf,aAe,C,D,A,B,E,cM,F,z,jp,pF];rw[<-h.eboots]
theorem Ij(h:Inv v now snaps s)(h0:0<=s.session):iU s.sender=0:=by
 have G:=h.big;have H:=AG h;rcases h.sender with⟨B,_⟩|⟨B,C,D⟩
 ·omega
 ·have A:s.sender=(s.session,(v.q:Int),s.sender.2.2):=by rw[<-C,<-D]
  rw[A];rcases h.queue with⟨z,E⟩|⟨m,z,E,F,I⟩
  ·rw[z];exact mD (by omega) (by omega) (by simp) (fun f u=>by simp at u)
  ·rw[z];exact mD (by omega) (by omega) (by simp) (fun f u=>by simp at u;subst u;exact F.load)
theorem LW(h:Inv v now snaps s)(hbq:v.q+1<=100000){b:List Int}(hb:Bytes b)(hbl:b.length<=2000){S:Int}{a:Nat}(hf:eP b=some (zF S a))
  (hs:S=s.session->a<=v.q\/(a=v.q+1/\s.sender.2.2≠ []/\s.sent<=v.k)):∃q' s',q'<=v.q+1/\eE b s=some (none,s')/\Inv { v with q:=q' } now snaps s'/\s'.net=s.net/\
   (0<=s.session->S=s.session->a=v.q+1->s.sender.2.2.length=1->s'.first=s.first/\s'.session=s.session/\s'.sender.2.2=[]/\s'.sent=s.sent):=by
 have ad:=h.big;have ae:=h.kh;have af:=h.safe;have z:=rD b hb (by omega);rw[hf] at z;simp only at z;have G:Xl v (zF S a) none:= .inr (.inl (by unfold zF;simp));by_cases D:0<=s.session
 ·have u:=zE s.sender b hb hbl (Ij h D);rw[hf] at u;unfold Fl at u;by_cases E:(zF S a).1=0/\(zF S a).2.2=[]/\(zF S a).2.1.length=2/\(zF S a).2.1.getD 0 0=s.sender.1/\s.sender.2.1<(zF S a).2.1.getD 1 0/\(zF S a).2.1.getD 1 0 - s.sender.2.1<=min (s.sender.2.2.length:Int) 4
  ·simp only[aAn E] at u;obtain⟨_,_,_,H,O,P⟩:=E;have H:S=s.sender.1:=H;have R:(zF S a).2.1.getD 1 0=(a:Int):=rfl;rw[R] at O P u;rcases h.sender with⟨L,_⟩|⟨L,F,M⟩
   ·omega
   ·have T:=hs (by rw[H,F]);rw[M] at O P;have I:a=v.q+1/\s.sender.2.2≠ []/\s.sent<=v.k:=by
     rcases T with d | d
     ·omega
     ·exact d
    obtain⟨I,_,ac⟩:=I;rcases h.queue with⟨C,Q⟩|⟨m,C,Q,d3,d4⟩
    ·exact absurd C ‹_›
    ·have N:=CW h hbq D C ac;have ah:s.epochs.1=v.h:=by have:=h.ep.num;have:=h.hs;omega
     obtain⟨A,B⟩:=N.ep.drop (num:=min (max s.safe s.sent) s.epochs.1) (by simp only;omega);refine⟨v.q+1,_,aAi _,?_,N.setEp B,rfl,fun _ _ _ _=>⟨rfl,rfl,rfl,rfl⟩⟩;have U:(s.sender.1,(a:Int),s.sender.2.2.drop ((a:Int) - s.sender.2.1).toNat)=(s.session,((v.q+1:Nat):Int),([]:List Fm)):=by
      rw[F,M,C,I];have:(((v.q+1:Nat):Int) - (v.q:Int)).toNat=1:=by omega
      rw[this];rfl
     rw[U] at u;have V:=Pz G;unfold eE cC;have X:cm .lss s.session (0:Int)=false:=by rw[cl];exact aAc (by omega)
     rw[z,cM,h.eboots];simp only[];rw[V];simp only[cM,pF,X];rw[u];simp only[cM,aAa,pF];rw[C,Q];have aa:ar .sub .i64 (([m]:List Fm).length:Int) (([]:List Fm).length:Int)=1:=by rw[subI (by simp)];simp
     have hz:Sw.sub [s.sent] (0:Int) 1=some [s.sent]:=rfl;have ab:Sw.sub [s.sent] (1:Int) (([s.sent]:List Int).length:Int)=some []:=rfl;rw[aa,hz,cM];unfold lp;rw[show fI=1125899906842622+1+1 from rfl,Go.PlFr.loop_next (y:=((1:Int),max s.safe s.sent)),Go.PlFr.loop_done (b:= .brk (max s.safe s.sent))]
     ·simp only[];rw[ab,cM,h.efn,A,cM];rw[<-h.eboots,<-h.efn];rfl
     ·rfl
     ·rfl
  ·simp only[aAj E] at u;obtain⟨s',A,B,K⟩:=Hf h z G (fun _=>u);refine⟨v.q,s',by omega,A,B,K,fun _ c d e=>absurd ?_ E⟩;rcases h.sender with⟨L,_⟩|⟨L,F,M⟩
   ·omega
   ·refine⟨rfl,rfl,rfl,?_,?_,?_⟩
    ·show S=s.sender.1;rw[F,c]
    ·show s.sender.2.1<(a:Int);omega
    ·show (a:Int) - s.sender.2.1<=_;omega
 ·obtain⟨s',A,B,K⟩:=Hf h z G (fun c=>absurd c D);exact⟨v.q,s',by omega,A,B,K,fun c=>absurd c D⟩
theorem Xm(h:Inv v now snaps s)(hbq:v.q+1<=100000){y:Bool×Bool×List Int}(hy:NetOk v snaps s y)(hd:y.1=false):
  ∃q' s',q'<=v.q+1/\eE y.2.2 s=some (none,s')/\Inv { v with q:=q' } now snaps s'/\s'.net=s.net:=by
 have aa:=h.big;have ab:=h.kh;have ac:=h.hs;have ad:=h.n1;have ae:=h.n0;have E:=hy.len;have B:=rD y.2.2 hy.bytes (by omega);by_cases K:y.2.1=true
 ·have D:=fun G=>zE s.sender y.2.2 hy.bytes E (Ij h G);rw[hy.torn K] at B D;obtain⟨s',C,u,A⟩:=Hf h B (.inl rfl) D;exact⟨v.q,s',by omega,C,u,A⟩
 ·obtain⟨f,Q,R,_,T⟩:=hy.whole (by simpa using K);have F:eP y.2.2=some f:=by rw[R];exact lF Q
  rcases T hd with⟨g,o,j,t,rfl,V,N,O,X,a6,I,a8⟩|⟨S,a,rfl,V,N,O⟩
  ·have L:snaps.getD j []∈snaps:=by
    rw[aAl,aAg (by omega)];exact aBk _
   have af:(snaps.getD j []).length=v.n:=h.ep.len _ L;obtain⟨x,z,U,_,_⟩:=HK (bs:=snaps.getD j []) (by omega) (by omega) (h.bok _ L);have P:t=[x,z]:=by rw[U] at I;exact(pT I).symm
   subst P;rw[F] at B;simp only at B;by_cases M:g=v.fb
   ·subst M;obtain⟨q',s',C,u,A,H,_⟩:=Uz h B O X a6 I (a8 rfl);exact⟨q',s',by omega,u,A,H⟩
   ·obtain⟨s',C,u,A⟩:=Hf h B (.inr (.inr ⟨g,o,j,x,z,rfl,M⟩)) (fun G=>by
     have D:=zE s.sender y.2.2 hy.bytes E (Ij h G);rw[F] at D;rw[D];unfold Fl;simp only[]
     rw[aAj (fun c=>by have:=c.1;simp[eO] at this)])
    exact⟨v.q,s',by omega,C,u,A⟩
  ·obtain⟨q',s',C,u,A,H,_⟩:=LW h hbq hy.bytes E F N;exact⟨q',s',C,u,A,H⟩
end Go.PlMi
namespace Go.PlMi
open Go Go.Sw Go.Mo Go.Pl
open Go.PlSt (nL wO)
variable {v:Nm}{now:List aQ}{snaps:List (List aQ)}{s:PS}
def wt(l:List (Bool×Bool×List Int)):Nat:=(l.map fun y=>bif y.1 then 2 else 1).sum
theorem Xn(a b:List (Bool×Bool×List Int)):wt (a++b)=wt a+wt b:=by unfold wt;rw[aCq,List.sum_append]
theorem LX(l:List (Bool×Bool×List Int))(y:Bool×List Int):wt (nN l (false,y))<=wt l+1:=by
 unfold nN;split
 ·rw[Xn];simp[wt]
 ·omega
theorem LY(h:Inv v now snaps s)(hbq:v.q+1<=100000)(hbx:v.x+1<=100000){y:Bool×Bool×List Int}(hy:NetOk v snaps s y):
  ∃k' q' x' s',v.k<=k'/\q'<=v.q+1/\x'<=v.x+1/\tJ y s=some (none,s')/\Inv { v with k:=k',q:=q',x:=x' } now snaps s'/\wt s'.net<wt s.net+(bif y.1 then 2 else 1):=by
 by_cases A:y.1=true
 ·obtain⟨k',x',s',E,C,u,D,B⟩:=Uy h hbx hy A;refine⟨k',v.q,x',s',E,by omega,C,?_,D,?_⟩
  rotate_left
  ·rw[A,aAe];rcases B with B |⟨z,B⟩
   ·rw[B];omega
   ·rw[B];have:=LX s.net z;omega
  unfold dP at u;unfold tJ fF;rw[A,aAe];cases hz:bW y.2.2 s.n s.fn s.fnum s.boots s.blocks s.epochs s.past s.session s.sender s.sent s.safe s.offered s.on s.onum s.oboots s.first s.receiver s.net s.fsn s.fd s.osn s.od with
  |none=>rw[hz] at u;cases u
  |some z=>rw[hz] at u;exact u
 ·have A:y.1=false:=by simpa using A
  obtain⟨q',s',C,u,D,B⟩:=Xm h hbq hy A;refine⟨v.k,q',v.x,s',aAi _,C,by omega,?_,D,by rw[A,pF,B];omega⟩;unfold eE at u;unfold tJ fF;rw[A,pF];cases hz:cC y.2.2 s.n s.fn s.fnum s.boots s.blocks s.epochs s.past s.session s.sender s.sent s.safe s.offered s.on s.onum s.oboots s.first s.receiver s.net s.fsn s.fd s.osn s.od with
  |none=>rw[hz] at u;cases u
  |some z=>rw[hz] at u;exact u
theorem Xo(h:Inv v now snaps s)(hbq:v.q+1<=100000)(hbx:v.x+1<=100000){a:Int}(ha:Ux a):
  ∃k' q' x' s',v.k<=k'/\q'<=v.q+1/\x'<=v.x+1/\mB a s=some (none,s')/\Inv { v with k:=k',q:=q',x:=x' } now snaps s'/\(s.net≠ []->wt s'.net<wt s.net):=by
 rcases Hd h ha with⟨Q,u⟩|⟨i,C,u,R,T⟩
 ·refine⟨v.k,v.q,v.x,s,aAi _,by omega,by omega,?_,h,fun c=>absurd Q c⟩;unfold iX at u;unfold mB eH;cases hq:bP a s.n s.fn s.fnum s.boots s.blocks s.epochs s.past s.session s.sender s.sent s.safe s.offered s.on s.onum s.oboots s.first s.receiver s.net s.fsn s.fd s.osn s.od with
  |none=>rw[hq] at u;cases u
  |some q=>
   rw[hq] at u;simp only[cM,aAk,aBg] at u;simp only[cM,u.2.1,aCg,aAe]
 ·have S:=h.netl;have D:=rB (aAg C);have E:=h.net _ (aBk C);generalize hy:s.net[i]=y at D E
  have F:=h.setNet (l:=s.net.take i++s.net.drop (i+1)) (by simp;omega) (fun x A=>by
   rcases aA0.1 A with A | A
   ·exact h.net x (aCo A)
   ·exact h.net x (aDp A))
  obtain⟨k',q',x',s',L,M,N,B,O,P⟩:=LY F hbq hbx (y:=y) (E.same rfl rfl rfl rfl rfl);refine⟨k',q',x',s',L,M,N,?_,O,fun _=>Nat.lt_of_lt_of_eq P ?_⟩
  rotate_left
  ·have e:=aAt i s.net;rw[aCy C,hy] at e;have G:=congrArg wt e;have H:wt (y::s.net.drop (i+1))=(bif y.1 then 2 else 1)+wt (s.net.drop (i+1)):=by unfold wt;simp
   rw[Xn,H] at G;simp only[Xn];omega
  unfold tJ at B;unfold mB eH;rw[R,cM];simp only[aBz,pF,D,cM];rw[Pw (by omega),cM];have I:ar .add .i64 (i:Int) (1:Int)=((i+1:Nat):Int):=nxt (by omega);have K:cD s.net (i:Int) ((i+1:Nat):Int)=some (s.net.take i++s.net.drop (i+1)):=AF s.net i C;rw[I,K,cM];cases hz:fF y s.n s.fn s.fnum s.boots s.blocks s.epochs s.past s.session s.sender s.sent s.safe s.offered s.on s.onum s.oboots s.first s.receiver (s.net.take i++s.net.drop (i+1)) s.fsn s.fd s.osn s.od with
  |none=>rw[hz] at B;cases B
  |some z=>rw[hz] at B;exact B
theorem AI(h:Inv v now snaps s)(r:Int×aQ×Int×Int×Int×List aQ):tK r s=some ((r.1,r.2.1,(v.h:Int),s.safe,(v.k:Int),snaps.getD v.k []),none,s):=by
 have B:=h.kh;have C:=h.hs;have z:snaps.getD v.k []∈snaps:=by
  rw[aAl,aAg (by omega)];exact aBk _
 have A:(snaps.getD v.k []).length=v.n:=h.ep.len _ z;have u:=wO h.seenO;rw[A,<-h.eosn] at u;unfold tK fH;rw[u,h.enum,h.eonum];simp only[cM]
end Go.PlMi
namespace Go.PlMi
open Go Go.Sw Go.Mo Go.Pl
variable {v v':Nm}{now now':List aQ}{snaps snaps':List (List aQ)}{s s':PS}
def fns(i:Nat)(d:Int×Int×Int×aQ)(s:PS):=vG i d s.n s.fn s.fnum s.boots s.blocks s.epochs s.past s.session s.sender s.sent s.safe s.offered s.on s.onum s.oboots s.first s.receiver s.net s.fsn s.fd s.osn s.od
theorem HS(i:Fin 11):tB ((i.1:Nat):Int)=some i.1:=by revert i;decide+kernel
theorem pS{d:Int×Int×Int×aQ}{i:Nat}{blk:aQ}{e:Option Int}(h':Inv v' now' snaps' s')(hi:i<11)(hd:d.1=(i:Int))(hf:fns i d s=some (blk,e,tup s')):
  mC d s=some ((e.getD 0,blk,(v'.h:Int),s'.safe,(v'.k:Int),snaps'.getD v'.k []),none,s'):=by
 have u:=AI h' (e.getD 0,blk,0,0,0,[]);have A:=HS ⟨i,hi⟩;simp only at A;have B:cm .lss d.1 (0:Int)=false:=by rw[cl];exact aAc (by omega)
 have C:cm .geq d.1 (11:Int)=false:=by rw[cge];exact aAc (by omega)
 unfold fns at hf;unfold tK at u;unfold mC gP;rw[B,C];simp only[pF,cM,jp];rw[hd,A,cM,hf,cM];cases hz:fH (e.getD 0,blk,0,0,0,[]) s'.n s'.fn s'.fnum s'.boots s'.blocks s'.epochs s'.past s'.session s'.sender s'.sent s'.safe s'.offered s'.on s'.onum s'.oboots s'.first s'.receiver s'.net s'.fsn s'.fd s'.osn s'.od with
 |none=>rw[hz] at u;cases u
 |some z=>
  rw[hz] at u;simp only[cM,aAk,aBg] at u;obtain⟨D,E⟩:=z;obtain⟨rfl,rfl,_⟩:=u;cases e with
  |none=>
   simp only[aEt] at hz;simp only[tup,aAa,pF,cM,hz,aEt]
  |some c=>
   simp only[aCe] at hz;simp only[tup,aCu,aAe,aBz,pF,cM,aCe,hz]
theorem LZ{d:Int×Int×Int×aQ}(h:Inv v now snaps s)(hd:d.1<0\/11<=d.1):
  mC d s=some ((3,aU,(v.h:Int),s.safe,(v.k:Int),snaps.getD v.k []),none,s):=by
 have u:=AI h (3,aU,0,0,0,[]);have A:(bif (cm .lss d.1 (0:Int)) then some true else some (cm .geq d.1 (11:Int)))=some true:=by
  rw[cl,cge];by_cases c:d.1<0
  ·rw[aAs c];rfl
  ·rw[aAc c,aAs (by omega)];rfl
 unfold tK at u;unfold mC gP;rw[A];simp only[cM,jp,aAe];cases hz:fH (3,aU,0,0,0,[]) s.n s.fn s.fnum s.boots s.blocks s.epochs s.past s.session s.sender s.sent s.safe s.offered s.on s.onum s.oboots s.first s.receiver s.net s.fsn s.fd s.osn s.od with
 |none=>rw[hz] at u;cases u
 |some z=>
  rw[hz] at u;simp only[cM,aAk,aBg] at u;obtain⟨B,C⟩:=z;obtain⟨rfl,rfl,_⟩:=u;rfl
theorem AJ{d:Int×Int×Int×aQ}{e:Option Int}(h:kR d.2.1 d.2.2.2 s=some (e,s')):fns 0 d s=some (aU,e,tup s'):=by
 unfold kR at h;unfold fns vG mU;cases hz:eD d.2.1 d.2.2.2 s.n s.fn s.fnum s.boots s.blocks s.epochs s.past s.session s.sender s.sent s.safe s.offered s.on s.onum s.oboots s.first s.receiver s.net s.fsn s.fd s.osn s.od with
 |none=>rw[hz] at h;cases h
 |some z=>rw[hz] at h;simp only[cM,aAk,aBg] at h;obtain⟨u,rfl⟩:=h;rw[<-u];rfl
theorem Va{d:Int×Int×Int×aQ}{e:Option Int}(h:kR d.2.1 aU s=some (e,s')):fns 1 d s=some (aU,e,tup s'):=by
 unfold kR at h;unfold fns vG mV;cases hz:eD d.2.1 aU s.n s.fn s.fnum s.boots s.blocks s.epochs s.past s.session s.sender s.sent s.safe s.offered s.on s.onum s.oboots s.first s.receiver s.net s.fsn s.fd s.osn s.od with
 |none=>rw[hz] at h;cases h
 |some z=>rw[hz] at h;simp only[cM,aAk,aBg] at h;obtain⟨u,rfl⟩:=h;rw[<-u];rfl
theorem Vb{d:Int×Int×Int×aQ}{e:Option Int}(h:pR s=some (e,s')):fns 3 d s=some (aU,e,tup s'):=by
 unfold pR at h;unfold fns vG mX;cases hz:fA s.n s.fn s.fnum s.boots s.blocks s.epochs s.past s.session s.sender s.sent s.safe s.offered s.on s.onum s.oboots s.first s.receiver s.net s.fsn s.fd s.osn s.od with
 |none=>rw[hz] at h;cases h
 |some z=>rw[hz] at h;simp only[cM,aAk,aBg] at h;obtain⟨u,rfl⟩:=h;rw[<-u];rfl
theorem HT{d:Int×Int×Int×aQ}{e:Option Int}(h:lG s=some (e,s')):fns 4 d s=some (aU,e,tup s'):=by
 unfold lG at h;unfold fns vG mY;cases hz:dS s.n s.fn s.fnum s.boots s.blocks s.epochs s.past s.session s.sender s.sent s.safe s.offered s.on s.onum s.oboots s.first s.receiver s.net s.fsn s.fd s.osn s.od with
 |none=>rw[hz] at h;cases h
 |some z=>rw[hz] at h;simp only[cM,aAk,aBg] at h;obtain⟨u,rfl⟩:=h;rw[<-u];rfl
theorem Vc{d:Int×Int×Int×aQ}{e:Option Int}(h:mB d.2.1 s=some (e,s')):fns 5 d s=some (aU,e,tup s'):=by
 unfold mB at h;unfold fns vG mZ;cases hz:eH d.2.1 s.n s.fn s.fnum s.boots s.blocks s.epochs s.past s.session s.sender s.sent s.safe s.offered s.on s.onum s.oboots s.first s.receiver s.net s.fsn s.fd s.osn s.od with
 |none=>rw[hz] at h;cases h
 |some z=>rw[hz] at h;simp only[cM,aAk,aBg] at h;obtain⟨u,rfl⟩:=h;rw[<-u];rfl
theorem HU{d:Int×Int×Int×aQ}{e:Option Int}(h:qI d.2.1 s=some (e,s')):fns 6 d s=some (aU,e,tup s'):=by
 unfold qI at h;unfold fns vG nA;cases hz:fG d.2.1 s.n s.fn s.fnum s.boots s.blocks s.epochs s.past s.session s.sender s.sent s.safe s.offered s.on s.onum s.oboots s.first s.receiver s.net s.fsn s.fd s.osn s.od with
 |none=>rw[hz] at h;cases h
 |some z=>rw[hz] at h;simp only[cM,aAk,aBg] at h;obtain⟨u,rfl⟩:=h;rw[<-u];rfl
theorem Xp{d:Int×Int×Int×aQ}{e:Option Int}(h:kS d.2.1 s=some (e,s')):fns 7 d s=some (aU,e,tup s'):=by
 unfold kS at h;unfold fns vG nB;cases hz:dU d.2.1 s.n s.fn s.fnum s.boots s.blocks s.epochs s.past s.session s.sender s.sent s.safe s.offered s.on s.onum s.oboots s.first s.receiver s.net s.fsn s.fd s.osn s.od with
 |none=>rw[hz] at h;cases h
 |some z=>rw[hz] at h;simp only[cM,aAk,aBg] at h;obtain⟨u,rfl⟩:=h;rw[<-u];rfl
theorem Xq{d:Int×Int×Int×aQ}{e:Option Int}(h:kT d s=some (e,s')):fns 10 d s=some (aU,e,tup s'):=by
 unfold kT at h;unfold fns vG lX;cases hz:dV d s.n s.fn s.fnum s.boots s.blocks s.epochs s.past s.session s.sender s.sent s.safe s.offered s.on s.onum s.oboots s.first s.receiver s.net s.fsn s.fd s.osn s.od with
 |none=>rw[hz] at h;cases h
 |some z=>rw[hz] at h;simp only[cM,aAk,aBg] at h;obtain⟨u,rfl⟩:=h;rw[<-u];rfl
theorem Vd{d:Int×Int×Int×aQ}{b:aQ}{e:Option Int}(h:nM d.2.1 s=some (b,e,s)):fns 2 d s=some (b,e,tup s):=by
 unfold nM at h;unfold fns vG mW;cases hz:fE d.2.1 s.n s.fn s.fnum s.boots s.blocks s.epochs s.past s.session s.sender s.sent s.safe s.offered s.on s.onum s.oboots s.first s.receiver s.net s.fsn s.fd s.osn s.od with
 |none=>rw[hz] at h;cases h
 |some z=>rw[hz] at h;simp only[cM,aAk,aBg] at h;obtain⟨u,A,_⟩:=h;rw[<-u,<-A];rfl
end Go.PlMi
namespace Go.PlMi
open Go Go.Sw Go.Mo Go.Pl
variable {v:Nm}{now:List aQ}{snaps:List (List aQ)}{s:PS}
theorem HV(bs:List aQ)(h:bs.length<=1000000):iW bs=some bs:=by
 unfold iW;rw[app_small _ _ (by simp;omega)];rfl
structure Grow (v v':Nm):Prop where
 n:v'.n=v.n
 h:v.h<=v'.h/\v'.h<=v.h+1
 k:v.k<=v'.k
 fb:v'.fb<=v.fb+1
 ob:v'.ob<=v.ob+1
 q:v'.q<=v.q+1
 x:v'.x<=v.x+1
def Jo(v:Nm)(now:List aQ)(snaps:List (List aQ))(s:PS)(d:Int×Int×Int×aQ):Prop:=
 ∃(v':Nm) (now':List aQ) (snaps':List (List aQ)) (s':PS) (oJ:Int) (blk:aQ),hO now snaps d=some (oJ,blk,now',snaps')/\
  mC d s=some ((oJ,blk,(v'.h:Int),s'.safe,(v'.k:Int),snaps'.getD v'.k []),none,s')/\Inv v' now' snaps' s'/\Grow v v'
theorem nO(v:Nm):Grow v v:=⟨rfl,⟨aAi _,by omega⟩,aAi _,by omega,by omega,by omega,by omega⟩
theorem HW(h:Inv v now snaps s){a k:Int}{b:aQ}(hb:xV b):Jo v now snaps s (0,a,k,b):=by
 have C:=h.ep.nowl;by_cases u:0<=a/\a<v.n
 ·obtain⟨F,G,B⟩:=HL h u hb;refine⟨v,_,snaps,F,0,aU,?_,pS B (by omega) rfl (AJ (d:=(0,a,k,b)) G),B,nO v⟩;obtain⟨z,H,_⟩:=xR (l:=now) (n:=a) u.1 (by rw[C];exact u.2);have D:cm .lss a (0:Int)=false:=by rw[cl];exact aAc (by omega)
  have E:cm .geq a (now.length:Int)=false:=by rw[cge];exact aAc (by omega)
  show ((bif cm .lss a (0:Int) then some true else some (cm .geq a (now.length:Int))).bind fun A=>bif A then some ((1:Int),aU,now,snaps) else (Sw.idx now a).bind fun _=>some ((0:Int),aU,(List.set now (Int.toNat a) b),snaps))=_;rw[D,E];simp only[pF,cM,H]
 ·refine⟨v,now,snaps,s,1,aU,?_,pS h (by omega) rfl (AJ (d:=(0,a,k,b)) (AD h (show a<0\/a>=v.n by omega))),h,nO v⟩;have c:(bif cm .lss a (0:Int) then some true else some (cm .geq a (now.length:Int)))=some true:=by
   rw[cl,cge];by_cases c:a<0
   ·rw[aAs c];rfl
   ·rw[aAc c,aAs (by omega)];rfl
  show ((bif cm .lss a (0:Int) then some true else some (cm .geq a (now.length:Int))).bind fun A=>bif A then some ((1:Int),aU,now,snaps) else (Sw.idx now a).bind fun _=>some ((0:Int),aU,(List.set now (Int.toNat a) b),snaps))=_;rw[c];rfl
theorem CX(h:Inv v now snaps s){a k:Int}{b:aQ}:Jo v now snaps s (1,a,k,b):=by
 have C:=h.ep.nowl;by_cases u:0<=a/\a<v.n
 ·obtain⟨F,G,B⟩:=HL h u AB;refine⟨v,_,snaps,F,0,aU,?_,pS B (by omega) rfl (Va (d:=(1,a,k,b)) G),B,nO v⟩;obtain⟨z,H,_⟩:=xR (l:=now) (n:=a) u.1 (by rw[C];exact u.2);have D:cm .lss a (0:Int)=false:=by rw[cl];exact aAc (by omega)
  have E:cm .geq a (now.length:Int)=false:=by rw[cge];exact aAc (by omega)
  show ((bif cm .lss a (0:Int) then some true else some (cm .geq a (now.length:Int))).bind fun A=>bif A then some ((1:Int),aU,now,snaps) else (Sw.idx now a).bind fun _=>some ((0:Int),aU,(List.set now (Int.toNat a) aU),snaps))=_;rw[D,E];simp only[pF,cM,H]
 ·refine⟨v,now,snaps,s,1,aU,?_,pS h (by omega) rfl (Va (d:=(1,a,k,b)) (AD h (show a<0\/a>=v.n by omega))),h,nO v⟩;have c:(bif cm .lss a (0:Int) then some true else some (cm .geq a (now.length:Int)))=some true:=by
   rw[cl,cge];by_cases c:a<0
   ·rw[aAs c];rfl
   ·rw[aAc c,aAs (by omega)];rfl
  show ((bif cm .lss a (0:Int) then some true else some (cm .geq a (now.length:Int))).bind fun A=>bif A then some ((1:Int),aU,now,snaps) else (Sw.idx now a).bind fun _=>some ((0:Int),aU,(List.set now (Int.toNat a) aU),snaps))=_;rw[c];rfl
theorem CY(h:Inv v now snaps s){a k:Int}{b:aQ}:Jo v now snaps s (2,a,k,b):=by
 have C:=h.ep.nowl;by_cases u:0<=a/\a<v.n
 ·refine⟨v,now,snaps,s,0,now.getD a.toNat [],?_,pS h (by omega) rfl (Vd (d:=(2,a,k,b)) (LP h u)),h,nO v⟩;obtain⟨z,F,G⟩:=xR (l:=now) (n:=a) u.1 (by rw[C];exact u.2);have D:cm .lss a (0:Int)=false:=by rw[cl];exact aAc (by omega)
  have E:cm .geq a (now.length:Int)=false:=by rw[cge];exact aAc (by omega)
  show ((bif cm .lss a (0:Int) then some true else some (cm .geq a (now.length:Int))).bind fun A=>bif A then some ((1:Int),aU,now,snaps) else (Sw.idx now a).bind fun B=>some ((0:Int),B,now,snaps))=_;rw[D,E];simp only[pF,cM,F];rw[aAl,G];rfl
 ·refine⟨v,now,snaps,s,1,aU,?_,pS h (by omega) rfl (Vd (d:=(2,a,k,b)) (HM h (show a<0\/a>=v.n by omega))),h,nO v⟩;have c:(bif cm .lss a (0:Int) then some true else some (cm .geq a (now.length:Int)))=some true:=by
   rw[cl,cge];by_cases c:a<0
   ·rw[aAs c];rfl
   ·rw[aAc c,aAs (by omega)];rfl
  show ((bif cm .lss a (0:Int) then some true else some (cm .geq a (now.length:Int))).bind fun A=>bif A then some ((1:Int),aU,now,snaps) else (Sw.idx now a).bind fun B=>some ((0:Int),B,now,snaps))=_;rw[c];rfl
theorem Rr(h:Inv v now snaps s)(hb:v.h+1<=100000){a k:Int}{b:aQ}:Jo v now snaps s (3,a,k,b):=by
 have D:=h.n1;have E:=h.hs;obtain⟨B,C,u⟩:=Xj h hb;refine⟨_,now,_,B,0,aU,?_,pS u (by omega) rfl (Vb (d:=(3,a,k,b)) C),u,⟨rfl,by simp only;omega,aAi _,by simp only;omega,by simp only;omega,by simp only;omega,by simp only;omega⟩⟩;show ((iW now).bind fun z=>(Sw.app snaps ([z]:(List (List aQ)))).bind fun A=>some ((0:Int),aU,now,A))=_;rw[HV _ (by have:=h.ep.nowl;omega),cM,app_small _ _ (by simp;omega)];rfl
theorem CZ(h:Inv v now snaps s){a k:Int}{b:aQ}:Jo v now snaps s (4,a,k,b):=by
 obtain⟨z,A,u,_⟩:=LS h;exact⟨v,now,snaps,z,0,aU,rfl,pS u (by omega) rfl (HT (d:=(4,a,k,b)) A),u,nO v⟩
theorem Rs(h:Inv v now snaps s)(hbq:v.q+1<=100000)(hbx:v.x+1<=100000){a k:Int}{b:aQ}(ha:Ux a):Jo v now snaps s (5,a,k,b):=by
 obtain⟨E,F,G,z,A,B,C,D,u,_⟩:=Xo h hbq hbx ha;exact⟨_,now,snaps,z,0,aU,rfl,pS u (by omega) rfl (Vc (d:=(5,a,k,b)) D),u,⟨rfl,by simp only;omega,A,by simp only;omega,by simp only;omega,B,C⟩⟩
theorem DC(h:Inv v now snaps s){a k:Int}{b:aQ}(ha:Ux a):Jo v now snaps s (6,a,k,b):=by
 obtain⟨z,A,u⟩:=LR h ha;exact⟨v,now,snaps,z,0,aU,rfl,pS u (by omega) rfl (HU (d:=(6,a,k,b)) A),u,nO v⟩
theorem Ve(h:Inv v now snaps s){a k:Int}{b:aQ}(ha:Ux a):Jo v now snaps s (7,a,k,b):=by
 obtain⟨z,A,u⟩:=CM h ha;exact⟨v,now,snaps,z,0,aU,rfl,pS u (by omega) rfl (Xp (d:=(7,a,k,b)) A),u,nO v⟩
theorem Vf(h:Inv v now snaps s)(hb:v.fb+1<=3000){a k:Int}{b:aQ}:Jo v now snaps s (8,a,k,b):=by
 have H:=h.big;have I:=h.hs;have K:=h.n1;obtain⟨F,G,_,u⟩:=CP h hb (8,a,k,b);refine⟨_,_,snaps,F,0,aU,?_,pS (i:=8) u (by omega) rfl G,u,⟨rfl,by simp only;omega,aAi _,aAi _,by simp only;omega,by simp only;omega,by simp only;omega⟩⟩;have z:snaps.getD v.h []∈snaps:=by
  rw[aAl,aAg (by omega)];exact aBk _
 show ((fM (now,snaps)).bind fun C=>(Sw.idx snaps C).bind fun D=>(iW D).bind fun E=>some ((0:Int),aU,E,snaps))=_;have A:fM (now,snaps)=some (v.h:Int):=by
  unfold fM;rw[subI (by simp only;omega)];simp only;congr 1;omega
 have B:Sw.idx snaps (v.h:Int)=some (snaps.getD v.h []):=rB (by rw[aAl,aAg (by omega)];rfl);rw[A,cM,B,cM,HV _ (by have:=h.ep.len _ z;omega)];rfl
theorem Vg(h:Inv v now snaps s)(hb:v.ob+1<=3000){a k:Int}{b:aQ}:Jo v now snaps s (9,a,k,b):=by
 obtain⟨z,A,_,u⟩:=CQ h hb (9,a,k,b);exact⟨_,now,snaps,z,0,aU,rfl,pS (i:=9) u (by omega) rfl A,u,⟨rfl,by simp only;omega,aAi _,by simp only;omega,aAi _,by simp only;omega,by simp only;omega⟩⟩
theorem Vh(h:Inv v now snaps s){a k:Int}{b:aQ}(ha:Ux a)(hk:Ux k)(hb:xV b):Jo v now snaps s (10,a,k,b):=by
 obtain⟨z,A,u⟩:=CO h (d:=(10,a,k,b)) ha hk hb;exact⟨v,now,snaps,z,0,aU,rfl,pS u (by omega) rfl (Xq (d:=(10,a,k,b)) A),u,nO v⟩
theorem QT(h:Inv v now snaps s)(hb:v.h+1<=100000/\v.fb+1<=3000/\v.ob+1<=3000/\v.q+1<=100000/\v.x+1<=100000){d:Int×Int×Int×aQ}(h1:Ux d.2.1)(h2:Ux d.2.2.1)(h3:xV d.2.2.2):Jo v now snaps s d:=by
 obtain⟨c,a,k,b⟩:=d;simp only at h1 h2 h3;by_cases z:c<0\/11<=c
 ·refine⟨v,now,snaps,s,3,aU,?_,LZ h z,h,nO v⟩;have A:(bif (cm .lss c (0:Int)) then some true else some (cm .geq c (11:Int)))=some true:=by
   rw[cl,cge];by_cases u:c<0
   ·rw[aAs u];rfl
   ·rw[aAc u,aAs (by omega)];rfl
  unfold hO;rw[A];rfl
 ·have B:c=0\/c=1\/c=2\/c=3\/c=4\/c=5\/c=6\/c=7\/c=8\/c=9\/c=10:=by omega
  rcases B with rfl | rfl | rfl | rfl | rfl | rfl | rfl | rfl | rfl | rfl | rfl
  ·exact HW h h3
  ·exact CX h
  ·exact CY h
  ·exact Rr h hb.1
  ·exact CZ h
  ·exact Rs h hb.2.2.2.1 hb.2.2.2.2 h1
  ·exact DC h h1
  ·exact Ve h h1
  ·exact Vf h hb.2.1
  ·exact Vg h hb.2.2.1
  ·exact Vh h h1 h2 h3
end Go.PlMi
namespace Go.PlMi
open Go Go.Sw Go.Mo Go.Pl
abbrev Bi:=Int×Int×Int×aQ
abbrev Ba:=Int×aQ×Int×Int×Int×List aQ
def Rt(d:Bi):Prop:=Ux d.2.1/\Ux d.2.2.1/\xV d.2.2.2
inductive Runs:Nm->List aQ->List (List aQ)->PS->List Bi->List Ba->Nm->List aQ->List (List aQ)->PS->Prop where
 |nil {v now snaps s} (h:Inv v now snaps s):Runs v now snaps s [] [] v now snaps s
 |cons {v now snaps s v' now' snaps' s' v2 now2 snaps2 s2} {d:Bi} {ds:List Bi} {rs:List Ba} {oJ:Int} {blk:aQ} (h:Inv v now snaps s) (hc:hO now snaps d=some (oJ,blk,now',snaps'))
   (hd:mC d s=some ((oJ,blk,(v'.h:Int),s'.safe,(v'.k:Int),snaps'.getD v'.k []),none,s')) (h':Inv v' now' snaps' s') (g:Grow v v') (t:Runs v' now' snaps' s' ds rs v2 now2 snaps2 s2):
   Runs v now snaps s (d::ds) ((oJ,blk,(v'.h:Int),s'.safe,(v'.k:Int),snaps'.getD v'.k [])::rs) v2 now2 snaps2 s2
theorem AK:∀(ds:List Bi) {v:Nm} {now:List aQ} {snaps:List (List aQ)} {s:PS},Inv v now snaps s->(∀d∈ds,Rt d)->v.h+ds.length<=100000->v.fb+ds.length<=3000->v.ob+ds.length<=3000->v.q+ds.length<=100000->v.x+ds.length<=100000->
  ∃rs v2 now2 snaps2 s2,Runs v now snaps s ds rs v2 now2 snaps2 s2/\rs.length=ds.length/\Inv v2 now2 snaps2 s2
 | [],v,now,snaps,s,h,_,_,_,_,_,_=>⟨[],v,now,snaps,s,.nil h,rfl,h⟩
 |d::ds,v,now,snaps,s,h,A,L,M,N,O,P=>by
  simp only[aAq] at L M N O P;obtain⟨C,D,E⟩:=A d (aA6 ..);obtain⟨V,X,aa,s',oJ,blk,F,G,z,u⟩:=QT h (by omega) C D E;have Q:=u.h;have R:=u.fb;have S:=u.ob;have T:=u.q;have U:=u.x;obtain⟨rs,v2,now2,snaps2,s2,H,I,K⟩:=AK ds z (fun x B=>A x (aAz _ B)) (by omega) (by omega) (by omega) (by omega) (by omega);exact⟨_,v2,now2,snaps2,s2,.cons h F G z u H,by simp[I],K⟩
theorem Xr{n:Nat}(h0:1<=n)(h1:n<=32){ds:List Bi}(hl:ds.length<=300)(hd:∀d∈ds,Rt d):
  ∃s0 rs v2 now2 snaps2 s2,iO (n:Int)=some (some (tup s0),none)/\Inv ⟨n,0,1,1,0,0,0⟩ (List.replicate n aU) [List.replicate n aU] s0/\
   Runs ⟨n,0,1,1,0,0,0⟩ (List.replicate n aU) [List.replicate n aU] s0 ds rs v2 now2 snaps2 s2/\rs.length=ds.length/\Inv v2 now2 snaps2 s2:=by
 obtain⟨u,z,A,B,C⟩:=HF h0 h1;have h:=CL h0 h1 A B;obtain⟨rs,v2,now2,snaps2,s2,D,E,F⟩:=AK ds h hd (by simp only;omega) (by simp only;omega) (by simp only;omega) (by simp only;omega) (by simp only;omega);exact⟨Ih n u z,rs,v2,now2,snaps2,s2,C,h,D,E,F⟩
def MU(i:Int)(s:PS)(rs:List Ba):=(i,s.n,s.fn,s.fnum,s.boots,s.epochs,s.session,s.sender,s.sent,s.safe,s.on,s.onum,s.oboots,s.first,s.receiver,rs,s.fsn,s.fd,s.blocks,s.past,s.offered,s.osn,s.od,s.net)
theorem HX{δ:Type}{step:_->Option (Step _ δ)}{l:List Bi}{fin:PS->List Ba->δ}
  (hs:∀(i:Nat) (d:Bi) (s s':PS) (acc:List Ba) (r:Ba),l[i]? =some d->i<=1000->acc.length<=1000->mC d s=some (r,none,s')->step (MU (i:Int) s acc)=some (.next (MU ((i+1:Nat):Int) s' (acc++[r]))))
  (he:∀(s:PS) (acc:List Ba),step (MU (l.length:Int) s acc)=some (.done (fin s acc))) (hl:l.length<=1000):
  ∀{v now snaps s ds rs v2 now2 snaps2 s2},Runs v now snaps s ds rs v2 now2 snaps2 s2->∀(pre:List Bi) (acc:List Ba) (f:Nat),l=pre++ds->acc.length=pre.length->ds.length<f->
   loop step f (MU (pre.length:Int) s acc)=some (fin s2 (acc++rs)):=by
 intro v now snaps s ds rs v2 now2 snaps2 s2 t
 induction t with
 |nil h=>
  intro pre acc f u B z;obtain⟨f,rfl⟩:∃g,f=g+1:=⟨f - 1,by simp at z;omega⟩
  have:pre=l:=by simpa using u.symm
  rw[this,Go.PlFr.loop_done (he _ _),aBa]
 |cons h F C G g t D=>
  rename_i d ds rs oJ blk;intro pre acc f u B z;simp only[aAq] at z;obtain⟨f,rfl⟩:∃g,f=g+1:=⟨f - 1,by omega⟩
  have E:l.length=pre.length+ds.length+1:=by rw[u];simp;omega
  rw[Go.PlFr.loop_next (hs pre.length d _ _ acc _ (by rw[u];simp) (by omega) (by omega) C)];have A:=fun r:Ba=>D (pre++[d]) (acc++[r]) f (by rw[u];simp) (by simp[B]) (by omega);simp only[sM,aCw,aAm,aD2] at A ⊢;exact A _
end Go.PlMi
namespace Go.PlMi
open Go Go.Sw Go.Mo Go.Pl
theorem MA{a0:Int}{ds:List Bi}(h:a0<1\/32<a0):hC a0 ds=some ([],some 1):=by
 have z:(bif (cm .lss a0 (1:Int)) then some true else some (cm .gtr a0 (32:Int)))=some true:=by
  rw[cl,cg];by_cases u:a0<1
  ·rw[aAs u];rfl
  ·rw[aAc u,aAs (by omega)];rfl
 unfold hC fZ;rw[z];rfl
theorem HY{n:Nat}(h0:1<=n)(h1:n<=32){ds:List Bi}(hl:300<ds.length):hC (n:Int) ds=some ([],some 2):=by
 have h:cm .lss (n:Int) (1:Int)=false:=by rw[cl];exact aAc (by omega)
 have u:cm .gtr (n:Int) (32:Int)=false:=by rw[cg];exact aAc (by omega)
 have z:cm .gtr (ds.length:Int) (300:Int)=true:=by rw[cg];exact aAs (by omega)
 unfold hC fZ;rw[h,u,z];rfl
theorem OE{n:Nat}(h0:1<=n)(h1:n<=32){ds:List Bi}(hl:ds.length<=300){s0:PS}(hst:iO (n:Int)=some (some (tup s0),none)){v now snaps rs v2 now2 snaps2 s2}(t:Runs v now snaps s0 ds rs v2 now2 snaps2 s2):
  fZ (n:Int) ds=some (some (tup s2),rs,none)/\hC (n:Int) ds=some (rs,none):=by
 have B:cm .lss (n:Int) (1:Int)=false:=by rw[cl];exact aAc (by omega)
 have C:cm .gtr (n:Int) (32:Int)=false:=by rw[cg];exact aAc (by omega)
 have D:cm .gtr (ds.length:Int) (300:Int)=false:=by rw[cg];exact aAc (by omega)
 have u:fZ (n:Int) ds=some (some (tup s2),rs,none):=by
  unfold fZ;rw[B,C,D];simp only[pF,cM];rw[hst,cM];simp only[uV,aAa,pF];unfold lp
  rw[show (((0:Int),(tup s0).1,(tup s0).2.1,(tup s0).2.2.1,(tup s0).2.2.2.1,(tup s0).2.2.2.2.2.1,(tup s0).2.2.2.2.2.2.2.1,(tup s0).2.2.2.2.2.2.2.2.1,(tup s0).2.2.2.2.2.2.2.2.2.1,(tup s0).2.2.2.2.2.2.2.2.2.2.1,(tup s0).2.2.2.2.2.2.2.2.2.2.2.2.1,(tup s0).2.2.2.2.2.2.2.2.2.2.2.2.2.1,(tup s0).2.2.2.2.2.2.2.2.2.2.2.2.2.2.1,(tup s0).2.2.2.2.2.2.2.2.2.2.2.2.2.2.2.1,(tup s0).2.2.2.2.2.2.2.2.2.2.2.2.2.2.2.2.1,([]:(List (Int×aQ×Int×Int×Int×(List aQ)))),(tup s0).2.2.2.2.2.2.2.2.2.2.2.2.2.2.2.2.2.2.1,(tup s0).2.2.2.2.2.2.2.2.2.2.2.2.2.2.2.2.2.2.2.1,(tup s0).2.2.2.2.1,(tup s0).2.2.2.2.2.2.1,(tup s0).2.2.2.2.2.2.2.2.2.2.2.1,(tup s0).2.2.2.2.2.2.2.2.2.2.2.2.2.2.2.2.2.2.2.2.1,(tup s0).2.2.2.2.2.2.2.2.2.2.2.2.2.2.2.2.2.2.2.2.2,(tup s0).2.2.2.2.2.2.2.2.2.2.2.2.2.2.2.2.2.1))=MU ((([]:List Bi).length:Nat):Int) s0 [] from rfl,
   HX (l:=ds) (fin:=fun s rs=>Ex.brk (MU 0 s rs).2) ?_ ?_ (by omega) t [] [] fI rfl rfl (by unfold fI;omega)]
  ·rfl
  ·intro i d s I acc r A K L h;unfold mC at h;have H:i<ds.length:=(aCa.1 A).1;have E:cm .lss (i:Int) (ds.length:Int)=true:=by rw[cl];exact aAs (by omega)
   simp only[MU];rw[E,aAe,rB A,cM];cases hz:gP d s.n s.fn s.fnum s.boots s.blocks s.epochs s.past s.session s.sender s.sent s.safe s.offered s.on s.onum s.oboots s.first s.receiver s.net s.fsn s.fd s.osn s.od with
   |none=>rw[hz] at h;cases h
   |some z=>
    rw[hz] at h;simp only[cM,aAk,aBg] at h;obtain⟨rfl,G,rfl⟩:=h;rw[cM];simp only[G,aAa,pF];rw[app_small _ _ (by simp;omega),cM,nxt (by omega)]
  ·intro s acc;have F:cm .lss (ds.length:Int) (ds.length:Int)=false:=by rw[cl];exact aAc (by omega)
   simp only[MU];rw[F,pF]
 refine⟨u,?_⟩;unfold hC;rw[u];rfl
end Go.PlMi
namespace Go.PlMi
open Go Go.Sw Go.Mo Go.Pl
theorem HZ{δ:Type}{step:Int×Int×List aQ×List (List aQ)->Option (Step (Int×Int×List aQ×List (List aQ)) δ)}{l:List Bi}{L:List Ba}{fin:δ}
  (hs:∀(i:Nat) (d:Bi) (v v':Nm) (now now':List aQ) (snaps snaps':List (List aQ)) (s':PS) (back oJ:Int) (blk:aQ),l[i]? =some d->L[i]? =some (oJ,blk,(v'.h:Int),s'.safe,(v'.k:Int),snaps'.getD v'.k [])->i<=1000->
   hO now snaps d=some (oJ,blk,now',snaps')->Inv v' now' snaps' s'->Grow v v'->back<=v.k->step (back,(i:Int),now,snaps)=some (.next ((v'.k:Int),((i+1:Nat):Int),now',snaps')))
  (he:∀back now snaps,step (back,(L.length:Int),now,snaps)=some (.done fin)) (hl:l.length<=1000):
  ∀{v now snaps s ds rs v2 now2 snaps2 s2},Runs v now snaps s ds rs v2 now2 snaps2 s2->∀(pre:List Bi) (preR:List Ba) (back:Int) (f:Nat),l=pre++ds->L=preR++rs->preR.length=pre.length->back<=v.k->ds.length<f->
   loop step f (back,(pre.length:Int),now,snaps)=some fin:=by
 intro v now snaps s ds rs v2 now2 snaps2 s2 t
 induction t with
 |nil h=>
  intro pre preR back f u z A D B;obtain⟨f,rfl⟩:∃g,f=g+1:=⟨f - 1,by simp at B;omega⟩
  have:preR=L:=by simpa using z.symm
  rw[<-A,this,Go.PlFr.loop_done (he _ _ _)]
 |cons h E I F g t G=>
  rename_i d ds rs oJ blk;intro pre preR back f u z A D B;simp only[aAq] at B;obtain⟨f,rfl⟩:∃g,f=g+1:=⟨f - 1,by omega⟩
  have H:l.length=pre.length+ds.length+1:=by rw[u];simp;omega
  rw[Go.PlFr.loop_next (hs pre.length d _ _ _ _ _ _ _ back oJ blk (by rw[u];simp) (by rw[z,<-A];simp) (by omega) E F g D)];have C:=fun r:Ba=>fun e=>G (pre++[d]) (preR++[r]) _ f (by rw[u];simp) e (by simp[A]) (aDg _) (by omega);simp only[sM,aCw,aAm,aD2] at C ⊢;exact C _ z
theorem Xs{n:Nat}(h1:n<=32):jZ (n:Int)=some (some (List.replicate n aU,[List.replicate n aU])):=by
 have h:Sw.mk (n:Int) aU=some (List.replicate n aU):=by
  unfold Sw.mk;rw[aAn (by omega)];simp
 unfold jZ;rw[h,cM,cM,app_small _ _ (by simp)];rfl
theorem Nt(a0:Int)(ds:List Bi)(hd:∀d∈ds,Rt d):gQ a0 ds=some true:=by
 by_cases O:a0<1\/32<a0
 ·have P:(bif (cm .lss a0 (1:Int)) then some true else some (cm .gtr a0 (32:Int)))=some true:=by
   rw[cl,cg];by_cases F:a0<1
   ·rw[aAs F];rfl
   ·rw[aAc F,aAs (by omega)];rfl
  unfold gQ;rw[MA O,cM,P];rfl
 ·obtain⟨n,rfl⟩:∃n:Nat,a0=(n:Int):=⟨a0.toNat,by omega⟩
  have C:1<=n:=by omega
  have B:n<=32:=by omega
  have G:cm .lss (n:Int) (1:Int)=false:=by rw[cl];exact aAc (by omega)
  have H:cm .gtr (n:Int) (32:Int)=false:=by rw[cg];exact aAc (by omega)
  by_cases Q:300<ds.length
  ·have D:cm .gtr (ds.length:Int) (300:Int)=true:=by rw[cg];exact aAs (by omega)
   unfold gQ;rw[HY C B Q,cM,G,H,D];rfl
  ·have D:cm .gtr (ds.length:Int) (300:Int)=false:=by rw[cg];exact aAc (by omega)
   obtain⟨s0,A,v2,an,ao,s2,a1,a2,N,a4,a5⟩:=Xr C B (by omega:ds.length<=300) hd;have R:=(OE C B (by omega) a1 N).2;have S:cm .neq (A.length:Int) (ds.length:Int)=false:=by rw[cn,a4];simp
   have T:cm .neq (0:Int) (0:Int)=false:=rfl;unfold gQ;rw[R,cM,G,H,D];simp only[pF,cM,jp,T,aAa,S];rw[Xs B,cM];simp only[uV];unfold lp
   rw[show (((0:Int),(0:Int),List.replicate n aU,[List.replicate n aU]):Int×Int×List aQ×List (List aQ))=(0,((([]:List Bi).length:Nat):Int),List.replicate n aU,[List.replicate n aU]) from rfl,
    HZ (l:=ds) (L:=A) (fin:=Ex.brk ()) ?_ ?_ (by omega) N [] [] 0 fI rfl rfl rfl (by omega) (by unfold fI;omega)]
   ·intro i d v u ab ac ad snaps' I K oJ blk hi M am hc z g hb;have ae:i<A.length:=(aCa.1 M).1;have E:cm .lss (i:Int) (A.length:Int)=true:=by rw[cl];exact aAs (by omega)
    have af:=z.hs;have ah:=z.kh;have ai:=z.safe;have aj:=z.big;have ak:=g.k;have al:=z.n1;have U:fM (ac,snaps')=some (u.h:Int):=by
     unfold fM;rw[subI (by simp only;omega)];simp only;congr 1;omega
    have V:∀x:Int,cm .neq x x=false:=fun x=>by rw[cn];simp
    have X:cm .lss (u.k:Int) K=false:=by rw[cl];exact aAc (by omega)
    have e5:cm .gtr (u.k:Int) (u.h:Int)=false:=by rw[cg];exact aAc (by omega)
    have e6:cm .lss I.safe (0:Int)=false:=by rw[cl];exact aAc (by omega)
    have e7:cm .gtr I.safe (u.k:Int)=false:=by rw[cg];exact aAc (by omega)
    have e8:Sw.idx snaps' (u.k:Int)=some (snaps'.getD u.k []):=rB (by rw[aAl,aAg (by omega)];rfl);have aa:snaps'.getD u.k []∈snaps':=by
     rw[aAl,aAg (by omega)];exact aBk _
    have e9:=Go.PlSt.sameBlocks_self (snaps'.getD u.k []) (by have:=z.ep.len _ aa;omega);simp only[E,aAe,rB hi,rB M,cM,hc,U,V,X,e5,e6,e7,e8,e9,pF,aB9,aBz];rw[nxt (by omega)]
   ·intro K ab ad;have E:cm .lss (A.length:Int) (A.length:Int)=false:=by rw[cl];exact aAc (by omega)
    simp only[E,pF]
end Go.PlMi
namespace Go.Pl
open Go Go.Sw Go.Mo Go.PlMi
theorem MB{d:Int×Int×Int×aQ}(h:Wf (Enc.pr (Enc.int .i64) (Enc.pr (Enc.int .i64) (Enc.pr (Enc.int .i64) aN))) d):Rt d:=by
 have u:=h.pr.2;have z:=u.pr.2;refine⟨u.pr.1.int,z.pr.1.int,?_⟩;have A:=z.pr.2.arr;exact⟨A.1,fun x B=>by have:=(A.2 x B).int;exact this⟩
theorem DD{a0:Int}{ds:List (Int×Int×Int×aQ)}(h:Wf (Enc.sl (Enc.pr (Enc.int .i64) (Enc.pr (Enc.int .i64) (Enc.pr (Enc.int .i64) aN)))) ds):gQ a0 ds=some true:=Nt a0 ds fun d u=>MB (h.sl.2 d u)
end Go.Pl
