/- The library over the model: how values lie, what is ours in memory, rules for operations, calls, loops. What the functions come to, as plain functions. Plain laws about these plain functions alone. Conditions: none. -/
import Derived.Test.YteckohdbfkhmdacGreatDoorMBSettleSays
import Derived.KernelRfl
set_option linter.unusedVariables false
set_option linter.unusedSimpArgs false
namespace Go.Sw
open Go Go.RowKit
def del{α:Type}(xs:List α)(lo hi:Int):Option (List α):=(sub xs lo hi).bind fun _=>some (xs.take lo.toNat++xs.drop hi.toNat)
section
variable {F:XG}{σ:AS}{pb:Option Nat}{d:Option Tmp}{ty:TypeId}{p:String}{af:Array Edge}{gd:Option (Nat×Bool)}{x y z:Operand}
theorem lR{g:Nat}:JO F ⟨d,.assign (.func g),ty,p,af,gd⟩ σ (.ZT g []) []:=
 fun ρ S a w _=>VU.value (w':=w) (v:= .func (.func g) #[] #[]) (by simp[execOp,Act.eval]) (XV.same (GO g ρ S w))
def ak(σ:AS)(xs:List Operand)(ss:List Slot):Prop:=
 ∀(F:XG) (ρ:Nat->LV) (a:Act) (w:World),Core F σ.d ρ w->(∀t s,lk σ.g t=some s->s.ok ρ (Un F.S0 ρ σ.d) w (a.tmps.getD t undef))->aV ρ (Un F.S0 ρ []) w ss (xs.map a.eval)
theorem ak.nil:ak σ [] []:=fun _ _ _ _ _ _=>by simp[aV]
theorem ak.cons{s s':Slot}{xs:List Operand}{l:List Slot}(hx:dB σ.g x=some s)(h:bc σ id [] s s')(k:ak σ xs l):ak σ (x::xs) (s'::l):=by
 intro F ρ a w j2 hs
 have A:Ext (Un F.S0 ρ σ.d) (Un F.S0 (fun i=>ρ (id i)) []) w w:=⟨YQ _,fun q _ C=>⟨rfl,fun h=>C (by
  rcases h with h |⟨i,z,h,_⟩
  ·exact .inl h
  ·simp[aW] at h)⟩⟩
 have B:=(bc.spec (d':=[]) (r:=id) j2 A (fun j z D _ b E u=>by
  rcases u with u |⟨i,z,u,_⟩
  ·exact j2.apart j z b D E u
  ·simp[aW] at u) h).1 _ (Jv hs hx)
 simp only[D8,aV];exact⟨_,_,rfl,B,k F ρ a w j2 hs⟩
theorem DJ{f:FuncId}{xs:List Operand}{ts:Array TypeId}{ss:List Slot}{res:Slot}(hc:WE F.P f ss res [])(XX:∀args w,(callFunc f args).run F.P w= .ok (.enter f args) w)
  (ha:ak σ xs ss) (hf:XO res) (hd:gR d F.N=true):JM F ⟨d,.call ⟨.value (.func f),xs.toArray,ts⟩,ty,p,af,gd⟩ σ ⟨iS d res σ.g,σ.d⟩:=by
 rintro a w ⟨⟨ρ,u,A⟩,C,D⟩;refine VU.enter (uA XX) ?_;have B:∀k,Un F.S0 ρ [] k->k<w.heap.size:=by
  rintro k (h |⟨i,z,h,_⟩)
  ·exact R4 (u.low k h) u.size
  ·simp[aW] at h
 refine(hc (Un F.S0 ρ []) w _ ρ B (ha F ρ a w u A)).mono ?_;rintro e K ⟨v,rfl,ρ',E,G,H,L⟩;refine⟨v,rfl,?_⟩;have:=St.put (dst:=d) u A C D rfl hd ⟨ρ',E,G,hf _ _ _ _ _ H,⟨fun i z h=>by simp[aW] at h,fun i z b h=>by simp[aW] at h,fun i j z I b h=>by simp[aW] at h⟩⟩;cases d with
 |none=>exact this
 |some t=>exact this
end
section
variable {F:XG}{ops:Array Oper}{OK:List (Nat×VS)->Prop}{os:List Oper}{σ σ':AS}{its:List ZF}{d:Option Tmp}{ty:TypeId}{p:String}{af:Array Edge}{gd:Option (Nat×Bool)}{x y z:Operand}{α:Type}{e:Wr α}{T:TypeId}{i:Nat}
theorem XS.aTr{xs ys:List α}{lo:Int}{k:IntKind}{U E:TypeId}(g:GK ops σ.g ⟨d,.slice U x (some y) none none,ty,p,af,gd⟩ true)(j:Nat)(hs:Sw.sub xs lo (xs.length:Int)=some ys)(hx:dB σ.g x=some (.ref i))(he:aW σ.d i=some (.arr T e xs))(hy:dB σ.g y=some (.v (Wr.int k) lo))
  (hU:∀w,(underlying U).run F.P w= .ok (.slice E) w) (hE:∀w,(sizeOf E).run F.P w= .ok e.n w) (_:σ.free [(j,.arr T e ys)]=true) (hd:gR d F.N=true) (q:XS F ops OK os ⟨iS d (.ref j) σ.g,(j,.arr T e ys)::wD σ.d i⟩ its σ'):
  XS F ops OK (⟨d,.slice U x (some y) none none,ty,p,af,gd⟩::os) σ (⟨.ref j,[(j,.arr T e ys)],[(j,.arr T e ys)],Kr σ.g ⟨d,.slice U x (some y) none none,ty,p,af,gd⟩,[i]⟩::its) σ':=
 .mv (nw:=[(j,.arr T e ys)]) (dl:=[i]) g hd (fun σ2 h u=>LW j hs ((h.ev (by simp[Op.operands])).trans hx) ((h.B9 (x:=x) (by simp[Op.operands]) hx (by simp[Slot.YJ])).trans he) ((h.ev (by simp[Op.operands])).trans hy) hU hE u hd) q
theorem XS.O9{f:FuncId}{xs:List Operand}{ts:Array TypeId}{ss:List Slot}{res:Slot}(g:GK ops σ.g ⟨d,.call ⟨.value (.func f),xs.toArray,ts⟩,ty,p,af,gd⟩ true)(ex:List Nat)(hc:WE F.P f ss res [])(XX:∀args w,(callFunc f args).run F.P w= .ok (.enter f args) w)
  (ha:∀σ2,Loc ops ⟨d,.call ⟨.value (.func f),xs.toArray,ts⟩,ty,p,af,gd⟩ σ σ2->(∀l∈ex,aW σ2.d l=aW σ.d l)->ak σ2 xs ss) (hf:XO res) (hd:gR d F.N=true) (k:XS F ops OK os ⟨iS d res σ.g,σ.d⟩ its σ'):
  XS F ops OK (⟨d,.call ⟨.value (.func f),xs.toArray,ts⟩,ty,p,af,gd⟩::os) σ (⟨res,[],[],Kr σ.g ⟨d,.call ⟨.value (.func f),xs.toArray,ts⟩,ty,p,af,gd⟩++ex,[]⟩::its) σ':=
 .mvx (nw:=[]) (fr:=[]) (dl:=[]) (ex:=ex) g hd (fun σ2 h u _=>DJ hc XX (ha σ2 h u) hf hd) k
end
end Go.Sw
namespace Go.Sw
open Go Go.RowKit
theorem DK{α:Type}{xs r:List α}{lo hi:Int}(h:del xs lo hi=some r):∃A M B,xs=A++(M++B)/\lo=(A.length:Int)/\hi=((A.length+M.length:Nat):Int)/\r=A++B:=by
 unfold del at h;cases hs:sub xs lo hi with
 |none=>rw[hs] at h;cases h
 |some v=>
  rw[hs] at h;simp only[cM,u3] at h;subst h;obtain⟨z,C,D,_⟩:=gW hs;have u:xs.drop lo.toNat=(xs.take hi.toNat).drop lo.toNat++xs.drop hi.toNat:=by
   conv=>lhs;rw[<-U4 hi.toNat xs]
   rw[List.drop_append_of_le_length (by rw[D7];omega)]
  refine⟨xs.take lo.toNat,(xs.take hi.toNat).drop lo.toNat,xs.drop hi.toNat,by rw[<-u,U4],?_,?_,rfl⟩
  ·rw[D7];omega
  ·rw[D7,P5,D7];omega
theorem MF{α:Type}(A M B:List α):sub (A++(M++B)) (A.length:Int) ((A.length+M.length:Nat):Int)=some M:=by
 have h:(A++(M++B)).length=A.length+(M.length+B.length):=by simp only[sM]
 rw[sub,WV (by omega),m9,m9,<-C9,List.take_left' (by rw[sM]),qu]
section
variable {F:XG}{σ:AS}{d:Option Tmp}{ty:TypeId}{p:String}{af:Array Edge}{gd:Option (Nat×Bool)}{x y z u:Operand}{α:Type}{e:Wr α}{T U:TypeId}{i b:Nat}
theorem MG{xs ys:List α}{lo hi mx:Int}{k k' k2:IntKind}{E:TypeId}(hs:Sw.sub xs lo hi=some ys)(hm:mx=(xs.length:Int))(hx:dB σ.g x=some (.ref i))(he:aW σ.d i=some (.arr T e xs))(hy:dB σ.g y=some (.v (Wr.int k) lo))(hz:dB σ.g z=some (.v (Wr.int k') hi))(hu:dB σ.g u=some (.v (Wr.int k2) mx))
  (hU:∀w,(underlying U).run F.P w= .ok (.slice E) w) (hE:∀w,(sizeOf E).run F.P w= .ok e.n w):JO F ⟨d,.slice U x (some y) (some z) (some u),ty,p,af,gd⟩ σ (.sub i (lo.toNat*e.n) (hi.toNat - lo.toNat)) []:=by
 subst hm;intro ρ S a w K;obtain⟨A,C,R,h2,B,V⟩:=Ui K (x:=x) (by simp[Op.operands]) hx he;have D:=(fW K (x:=y) (by simp[Op.operands]) hy).1;have G:=(fW K (x:=z) (by simp[Op.operands]) hz).1;have H:=(fW K (x:=u) (by simp[Op.operands]) hu).1;obtain⟨X,s1,s2,_⟩:=gW hs;have I:(Instr.sliceBounds true xs.length C (some (.int k lo)) (some (.int k' hi)) (some (.int k2 (xs.length:Int)))).run F.P w= .ok (lo.toNat,hi.toNat,xs.length) w:=by
  have L:(xs.length:Int)<=(C:Int):=by omega
  have M:0<=hi:=by omega
  have N:lo<=(hi.toNat:Int):=by omega
  have O:(0:Int)<=(xs.length:Int):=by omega
  simp only[Instr.sliceBounds,Instr.sliceBound,asIntOf,Sem.run_bind,Sem.run_pure,Result.andThen_ok,X,L,M,N,O,s2,m9,and_self,l3]
 refine VU.value (w':=w) (v:= .slice (if xs.length=lo.toNat then A else A.map (·.add (lo.toNat*e.n))) (hi.toNat - lo.toNat) (xs.length - lo.toNat)) ?_ (XV.same ?_)
 ·simp[execOp,Instr.sliceAt,Instr.slice,R,D,G,H,hU,hE,I]
 ·have Q:∀q,A=some q->q.spot=none:=by
   rintro q rfl;rcases V with⟨_,h⟩|⟨b',M0,aa,cs,ab,h,_⟩
   ·rw[B] at h;cases h
   ·rw[B] at h;simp only[Value.slice.injEq,u3] at h;rw[h.1]
  simp only[Slot.ok];rw[B];refine⟨⟨_,_,_,rfl⟩,xs.length - lo.toNat,if xs.length=lo.toNat then 0 else lo.toNat*e.n,by omega,?_,?_⟩
  ·split
   ·right;omega
   ·exact .inl rfl
  ·cases A with
   |none=>split<;>rfl
   |some q=>
    obtain⟨b',o',sp⟩:=q;have:=Q _ rfl;simp only at this;subst this;split
    ·rfl
    ·simp[Tv,Addr.add_lit]
theorem Uw{o n c m:Nat}{lo:Int}{k:IntKind}{E:TypeId}(n':Nat)(H5:n'=0)(hlo:lo=(m:Int))(hm:m=n)(hmc:m=c)(hx:dB σ.g x=some (.w8 i o 0 n c))(hy:dB σ.g y=some (.v (Wr.int k) lo))
  (hU:∀w,(underlying U).run F.P w= .ok (.slice E) w) (hE:∀w,(sizeOf E).run F.P w= .ok e.n w):JO F ⟨d,.slice U x (some y) none none,ty,p,af,gd⟩ σ (.w8 i o 0 n' 0) []:=by
 subst hlo hm hmc H5;intro ρ S a w K;obtain⟨b,z,A⟩:=rO (K.slot x (by simp[Op.operands]) _ hx);have h:=(fW K (x:=y) (by simp[Op.operands]) hy).1;refine VU.value (w':=w) ?_ (XV.same (Mm z));have u:=Db (P:=F.P) (w:=w) (len:=m) (cap:=m) (k:=k) (lo:=(m:Int)) (by omega) (by omega);simp[execOp,Instr.sliceAt,Instr.slice,A,h,hU,hE,u]
theorem Kd{o n c m m2:Nat}{lo hi:Int}{k k':IntKind}{E:TypeId}(o' n' c':Nat)(hlo:lo=(m:Int))(hhi:hi=(m2:Int))(hm:m<=m2)(hmc:m<c)(hm2:m2<=c)(ho:o'=o+m*e.n)(H5:n'=m2 - m)(O8:c'=c - m)(hx:dB σ.g x=some (.w8 i o 0 n c))(hy:dB σ.g y=some (.v (Wr.int k) lo))(hz:dB σ.g z=some (.v (Wr.int k') hi))
  (hU:∀w,(underlying U).run F.P w= .ok (.slice E) w) (hE:∀w,(sizeOf E).run F.P w= .ok e.n w):JO F ⟨d,.slice U x (some y) (some z) none,ty,p,af,gd⟩ σ (.w8 i o' 0 n' c') []:=by
 subst hlo hhi ho H5 O8;intro ρ S a w K;obtain⟨b,C,D⟩:=rO (K.slot x (by simp[Op.operands]) _ hx);have h:=(fW K (x:=y) (by simp[Op.operands]) hy).1;have u:=(fW K (x:=z) (by simp[Op.operands]) hz).1;refine VU.value (w':=w) ?_ (XV.same (Mm C));have A:=CS (P:=F.P) (w:=w) (len:=n) (cap:=c) (k:=k) (k':=k') (lo:=(m:Int)) (hi:=(m2:Int)) (by omega) (by omega) (by omega);have B:¬(c=m):=by omega
 simp[execOp,Instr.sliceAt,Instr.slice,D,h,u,hU,hE,A,B,Addr.add_lit]
theorem Mv{o n c:Nat}{E:TypeId}(hx:dB σ.g x=some (.w8 i o 0 n c))(hU:∀w,(underlying U).run F.P w= .ok (.slice E) w)(hc:n<=9223372036854775807):JO F ⟨d,.call ⟨.builtin .len,#[x],#[U]⟩,ty,p,af,gd⟩ σ (.v (Wr.int .i64) (n:Int)) []:=by
 intro ρ S a w K;obtain⟨b,u,h⟩:=rO (K.slot x (by simp[Op.operands,Call.operands]) _ hx);refine VU.value (w':=w) (v:= .int .i64 (n:Int)) ?_ (XV.same (tF (Cz hc) _ _ _));simp[execOp,resolve,invoke,builtin,h,Gy hU]
theorem Qj{pp q c o2 c2:Nat}{A M B:List α}{E:TypeId}(he:aW σ.d i=some (.dp (DE.L0 E e b) [.any pp,.rows A,.rows (M++B),.any q] []))(hx:dB σ.g x=some (.w8 i pp 0 A.length c))(hy:dB σ.g y=some (.w8 i o2 0 B.length c2))
  (xy:B=[]\/o2=pp+(A.length+M.length)*e.n) (L5:A.length+B.length<=c)
  (hU:∀w,(underlying U).run F.P w= .ok (.slice E) w) (hE:∀w,(sizeOf E).run F.P w= .ok e.n w) (hd:gR d F.N=true):
  JM F ⟨d,.call ⟨.builtin .append,#[x,y],#[U,U]⟩,ty,p,af,gd⟩ σ ⟨iS d (.w8 i pp 0 (A.length+B.length) c) σ.g,(i,.dp (DE.L0 E e b) [.any pp,.rows A,.rows B,.rows [],.any (M.length*e.n+q)] [])::σ.d⟩:=by
 rintro a w ⟨⟨ρ,hc,hs⟩,q7,YX⟩;have K:=cI hc hs (Op.call ⟨.builtin .append,#[x,y],#[U,U]⟩).operands;obtain⟨b1,g1,X⟩:=rO (K.slot x (by simp[Op.operands,Call.operands]) _ hx);obtain⟨b2,g3,Q⟩:=rO (K.slot y (by simp[Op.operands,Call.operands]) _ hy);obtain⟨H,cs,I,h,_,rfl,C,ca,_,rfl,k4,R,_,rfl,k5,S,_,rfl,C1,rfl⟩:=Uk hc he;have e1:b1=b:=by rw[H] at g1;cases g1;rfl
 have e2:b2=b:=by rw[H] at g3;cases g3;rfl
 rw[e1] at X;rw[e2] at Q;have C:h.length=pp:=C;have C1:S.length=q:=C1;have L:=cP k4;have T7:=cP k5;have an:M.length*e.n<=R.length:=by rw[T7,sM,K2];omega
 obtain⟨cm,cb,rfl,hm,kb⟩:∃cm cb,R=cm++cb/\cm.length=M.length*e.n/\e.YY B (Un F.S0 ρ σ.d) w cb:=by
  refine⟨R.take (M.length*e.n),R.drop (M.length*e.n),(U4 _ _).symm,by rw[D7];omega,?_⟩;have:=vU M.length k5
  rwa [qu] at this
 have O:=cP kb;obtain⟨rest,j0⟩:∃rest,rest=cm++(cb++S):=⟨_,rfl⟩
 have V:rest.length=M.length*e.n+(B.length*e.n+q):=by rw[j0];simp only[sM];omega
 have oh:h++(ca++(cm++cb++(S++[])))=h++ca++rest:=by rw[j0];simp
 rw[oh] at I;have fin:∀w',(execOp a.eval ⟨d,.call ⟨.builtin .append,#[x,y],#[U,U]⟩,ty,p,af,gd⟩).run F.P w= .ok (.value (.slice (some ⟨b,pp,none⟩) (A.length+B.length) c)) w'->ax b w w'->
   (∃T,T.length=M.length*e.n+q/\w'.heap[b]? =some (.cells (h++ca++(cb++T)).toArray E (0,0)))->
   VU F.P ⟨d,.call ⟨.builtin .append,#[x,y],#[U,U]⟩,ty,p,af,gd⟩ a w fun v w'=>St F ⟨iS d (.w8 i pp 0 (A.length+B.length) c) σ.g,(i,.dp (DE.L0 E e b) [.any pp,.rows A,.rows B,.rows [],.any (M.length*e.n+q)] [])::σ.d⟩ (a.put d v) w':=by
  rintro w' D hu ⟨T,al,am⟩;refine VU.value D ?_;obtain⟨q1,q2⟩:=hc.upd (en':= .dp (DE.L0 E e b) [.any pp,.rows A,.rows B,.rows [],.any (M.length*e.n+q)] []) he (.inl (by rw[H];rfl)) hu fun hE=>⟨H,_,am,h,_,by simp,C,ca,_,rfl,Wr.VX k4 hE,cb,_,rfl,Wr.VX kb hE,[],_,rfl,rfl,T,[],rfl,al,rfl⟩
  have aa:∀t s,lk σ.g t=some s->s.ok ρ (Un F.S0 ρ ((i,.dp (DE.L0 E e b) [.any pp,.rows A,.rows B,.rows [],.any (M.length*e.n+q)] [])::σ.d)) w' (a.tmps.getD t undef):=fun t s z=>Slot.VP s _ (hs t s z) q2 (fun _ _=>rfl);refine⟨⟨ρ,q1,fun t s z=>?_⟩,by rw[lC,q7],by cases d<;>exact YX⟩;cases d with
  |none=>exact aa t s z
  |some q0=>
   simp only[iS] at z;have XK:q0<a.tmps.size:=by rw[q7];exact A6 hd
   rw[lD a q0 _ t XK];rw[mG] at z;split at z
   ·rename_i G;cases z;rw[WV G];exact Mm H
   ·rename_i G;rw[WM G];exact aa t s z
 by_cases hB:B=[]
 ·subst hB;have ab:cb=[]:=ig (by simpa using O);refine fin w ?_ ⟨rfl,fun _ _=>rfl,rfl,rfl,rfl⟩ ⟨rest,by rw[V];simp,by rw[ab];exact I⟩;have D:=tK (P:=F.P) (w:=w) (U:=U) (E:=E) (tt:=ty) (n:=e.n) (base:=some ⟨b,pp,none⟩) (ad:=some ⟨b,o2,none⟩) (l:=A.length) (c:=c2) (cap:=c) hU hE (by simpa using L5);simp only[V8] at Q;simp[execOp,resolve,invoke,builtin,X,Q,D]
 ·have xy:=xy.resolve_left hB;subst xy;have L7:∀j u,cb[j]? =some u->w.cell? ((⟨b,pp+(A.length+M.length)*e.n,none⟩:Addr).add j)=some u:=by
   have ac:WC w b (h.length+(ca++cm).length) cb:=by
    have G:=WC.of_heap I;have e3:h++ca++rest=(h++(ca++cm))++(cb++S):=by rw[j0];simp
    rw[e3] at G;have:=G.sub;simpa using this
   intro j u hj;have:=ac.cell j u hj
   rwa [C,sM,L,hm,<-K2] at this
  have O5:pp+A.length*e.n+cb.length<=(h++ca++rest).length:=by simp only[sM,C,L,V,O];omega
  have D:=Fk (P:=F.P) (w:=w) (U:=U) (E:=E) (tt:=ty) (n:=e.n) (g:=b) (off:=pp) (l:=A.length) (cap:=c) (m:=B.length) (c:=c2) (cur:=h++ca++rest) (a:=⟨b,pp+(A.length+M.length)*e.n,none⟩) (news:=cb) hU hE I O L7 (Li kb) L5 O5;have z:(h++ca++rest).take (pp+A.length*e.n)=h++ca:=by
   have:pp+A.length*e.n=(h++ca).length:=by rw[sM,C,L]
   rw[this];exact ze
  have IP:(h++ca++rest).drop (pp+A.length*e.n+cb.length)=rest.drop cb.length:=by
   have:pp+A.length*e.n=(h++ca).length:=by rw[sM,C,L]
   rw[this,<-aDc,qu]
  rw[z,IP,C9] at D;refine fin _ ?_ (ax.setRow w b _) ⟨rest.drop cb.length,by rw[P5,V,O];omega,setRow_heap w b _ _ E _ I⟩;simp[execOp,resolve,invoke,builtin,X,Q,D]
theorem Ke{pp q o k c:Nat}{A B:List α}{z0:Value}{zv:α}{E:TypeId}(he:aW σ.d i=some (.dp (DE.L0 E e b) [.any pp,.rows A,.rows B,.rows [],.any q] []))(hx:dB σ.g x=some (.w8 i o 0 k c))
  (ho:o=pp+(A.length+B.length)*e.n) (hk:k*e.n<=q) (ql:0<k)
  (hU:∀w,(underlying U).run F.P w= .ok (.slice E) w) (hZ:∀w,(zeroValue E).run F.P w= .ok z0 w) (hz:∀S w,e.ok zv S w z0.cells.toList):
  JM F ⟨none,.call ⟨.builtin .clear,#[x],#[U]⟩,ty,p,af,gd⟩ σ ⟨σ.g,(i,.dp (DE.L0 E e b) [.any pp,.rows A,.rows B,.rows [],.any q] [])::σ.d⟩:=by
 subst ho;rintro a w ⟨⟨ρ,T,hs⟩,q7,YX⟩;have K:=cI T hs (Op.call ⟨.builtin .clear,#[x],#[U]⟩).operands;obtain⟨b1,g1,g2⟩:=rO (K.slot x (by simp[Op.operands,Call.operands]) _ hx);obtain⟨O,cs,Q,h,_,rfl,G,z,_,rfl,k4,C,_,rfl,k5,c0,_,rfl,k6,post,_,rfl,H,rfl⟩:=Uk T he;have e1:b1=b:=by rw[O] at g1;cases g1;rfl
 rw[e1] at g2;have G:h.length=pp:=G;have H:post.length=q:=H;have Y9:=cP k4;have T7:=cP k5;have h0:c0=[]:=k6;subst h0;have V:z0.cells.size=e.n:=by have:=e.len (hz (fun _=>False) w);simpa using this
 obtain⟨news,R⟩:∃news,news=(Builtin.zeroCells z0.cells k).toList:=⟨_,rfl⟩
 have X:news.length=k*e.n:=by rw[R,aw,size_zeroCells,V]
 have C2:∀u∈news,u.oneCell'=true:=rI (Ej (hz (fun _=>False) w) k news X fun i hi=>by rw[R];exact Be (by rw[V];exact hi));obtain⟨D,oh⟩:∃D,D=h++(z++(C++([]++(post++[])))):=⟨_,rfl⟩
 rw[<-oh] at Q;have I:D=(h++(z++C))++post:=by rw[oh];simp
 have L:pp+(A.length+B.length)*e.n=(h++(z++C)).length:=by simp only[sM,G,Y9,T7,K2]
 have O5:pp+(A.length+B.length)*e.n+news.length<=D.length:=by rw[I,sM,<-L,X];omega
 have M:=run_storeCells_at F.P b (pp+(A.length+B.length)*e.n) E news 0 D.toArray w Q (by simpa using O5) C2;simp only[aDh] at M;have N:D.take (pp+(A.length+B.length)*e.n)=h++(z++C):=by rw[I,L];exact ze
 have IP:D.drop (pp+(A.length+B.length)*e.n+news.length)=post.drop news.length:=by rw[I,L,<-aDc,qu]
 rw[N,IP] at M;have YO:(Builtin.clear_ #[U] ty #[.slice (some ⟨b,pp+(A.length+B.length)*e.n,none⟩) k c]).run F.P w= .ok (.tuple #[]) (w.setRow b (h++(z++C)++news++post.drop news.length).toArray):=by
  obtain⟨n',rfl⟩:∃n',k=n'+1:=⟨k - 1,by omega⟩
  simp[Builtin.clear_,hU,hZ,<-R,M]
 refine VU.value (v:= .tuple #[]) (w':=w.setRow b (h++(z++C)++news++post.drop news.length).toArray) (by simp[execOp,resolve,invoke,builtin,g2,YO]) ?_;obtain⟨q1,q2⟩:=T.upd (en':= .dp (DE.L0 E e b) [.any pp,.rows A,.rows B,.rows [],.any q] []) he (.inl (by rw[O];rfl)) (ax.setRow w b _) fun hE=>⟨O,_,setRow_heap w b _ (h++(z++C)++news++post.drop news.length).toArray E _ Q,h,_,by simp,G,z,_,rfl,Wr.VX k4 hE,C,_,rfl,Wr.VX k5 hE,[],_,rfl,rfl,news++post.drop news.length,[],rfl,(by show (news++post.drop news.length).length=q;simp only[sM,P5,H];omega),rfl⟩
 exact⟨⟨ρ,q1,fun t s N=>Slot.VP s _ (hs t s N) q2 (fun _ _=>rfl)⟩,q7,YX⟩
end
end Go.Sw
namespace Go.Sw
open Go Go.RowKit
theorem VR.aUa{P:Program}{f:FuncId}{ss:List Slot}{vs:List Value}{w:World}{v:Value}{go:Obj}{G:Nat}(hc:VR P f ss [(G,.dp (dH v) go [])] (.v Wr.bool true) [(G,.dp (dH v) go [])])
  (hg:w.cell? ⟨0,0,none⟩=some v) (ho:w.heap[0]? =some go) (hv:aV (fun _=> .of (.pointer (some ⟨0,0,none⟩))) (fun k=>k=0) w ss vs):
  Calls P f vs.toArray w fun e w'=>e= .returned (.bool true)/\Below w.heap.size w w':=by
 have M:0<w.heap.size:=(zo.1 ho).1;have A:∀k,mP (fun _=>LV.of (.pointer (some ⟨0,0,none⟩))) [(G,.dp (dH v) go [])] k↔k=0:=by
  intro k;constructor
  ·rintro⟨i,z,_,h⟩;rcases h with h | h
   ·exact(pT h).symm
   ·exact h.elim
  ·rintro rfl;exact⟨G,.dp (dH v) go [],by rw[cK];simp,.inl rfl⟩
 have E:Un (fun _=>False) (fun _=>LV.of (.pointer (some ⟨0,0,none⟩))) [(G,.dp (dH v) go [])]=fun k=>k=0:=by
  funext k;exact propext ⟨fun h=>h.elim False.elim (fun h=>(A k).1 h),fun h=> .inr ((A k).2 h)⟩
 have B:∀i z,aW [(G,VS.dp (dH v) go [])] i=some z->i=G/\z=VS.dp (dH v) go []:=by
  intro i z h;rw[cK] at h;split at h
  ·rename_i e;exact⟨e.symm,(pT h).symm⟩
  ·cases h
 refine Calls.mono (hc (fun _=>False) w vs (fun _=> .of (.pointer (some ⟨0,0,none⟩))) (fun _ h=>h.elim) ⟨?_,?_,fun _ _ _ _ _ h=>h,?_⟩ (by rw[E];exact hv)) ?_
 ·intro i z h;obtain⟨_,rfl⟩:=B i z h;exact⟨⟨rfl,hg⟩,ho⟩
 ·intro i z b h F;have:=(A b).1 ⟨i,z,h,F⟩;omega
 ·intro i j z H b h I _ _;rw[(B i z h).1,(B j H I).1]
 ·rintro e w' ⟨u,ρ',rfl,h⟩;have C:=h.slot;simp only[Slot.ok] at C;rw[zL.1 C];refine⟨rfl,h.os,h.tape,h.output,h.size,fun k K=>?_⟩;by_cases D:k=0
  ·subst D;have:=h.own G (.dp (dH v) go []) (by rw[cK];simp);rw[this.2,ho]
  ·exact h.frame k K (fun L=>D ((A k).1 L))
end Go.Sw
namespace Go.Sw
open Go Go.RowKit
mutual
theorem Dc:∀s:Slot,s.map id=s
 | .v _ _ | .ref _ | .ptr _ _ | .fg _ _ _ _ | .el _ _ _ _ | .w8 _ _ _ _ _ | .mq _ _ _ _ | .sub _ _ _ | .YA _ _ | .top=>rfl
 | .ZT _ c=>by rw[Slot.map,Bh c]
 | .agg l | .WL l=>by rw[Slot.map,Bh l]
theorem Bh:∀l:List Slot,fK id l=l
 | []=>rfl
 |s::l=>by rw[fK,Dc s,Bh l]
end
inductive Kp (g:List (Nat×Slot)):List Nat->List (Nat×Slot)->Prop
 |n:Kp g [] []
 |c {t:Nat} {s:Slot} {ts:List Nat} {g':List (Nat×Slot)}:lk g t=some s->Kp g ts g'->Kp g (t::ts) ((t,s)::g')
inductive Nd:List Nat->List (Nat×VS)->List (Nat×VS)->Prop
 |n {s:List Nat}:Nd s [] []
 |c {s:List Nat} {i:Nat} {en:VS} {r d:List (Nat×VS)}:iI i s=false->Nd (i::s) r d->Nd s ((i,en)::r) ((i,en)::d)
 |s {s:List Nat} {i:Nat} {en:VS} {r d:List (Nat×VS)}:iI i s=true->Nd s r d->Nd s ((i,en)::r) d
theorem Nd.spec{s:List Nat}{r d:List (Nat×VS)}(h:Nd s r d):∀i en,aW d i=some en->i∉s/\aW r i=some en:=by
 induction h with
 |n=>intro i en h;cases h
 | @c s j e r d u _ B=>
  intro i en h;have u:j∉s:=fun x=>by rw[jB.2 x] at u;cases u
  rw[cK] at h ⊢;split at h
  ·rename_i e;subst e;rw[WV rfl];exact⟨u,h⟩
  ·rename_i e;rw[WM e];obtain⟨z,A⟩:=B i en h;exact⟨fun x=>z (Z6 _ x),A⟩
 | @s s j e r d u _ B=>
  intro i en h;obtain⟨z,A⟩:=B i en h;refine⟨z,?_⟩;rw[cK,WM (fun e:j=i=>z (by rw[<-e];exact jB.1 u))];exact A
theorem Nd.mem{s:List Nat}{r d:List (Nat×VS)}(h:Nd s r d):∀i∈d.map (·.1),i∉s:=by
 induction h with
 |n=>intro i h;cases h
 | @c s j e r d z _ u=>
  intro i h;rcases o6.1 h with rfl | h
  ·exact fun x=>by rw[jB.2 x] at z;cases z
  ·exact fun x=>u i h (Z6 _ x)
 |s _ _ u=>exact u
theorem Nd.inj{s:List Nat}{r d:List (Nat×VS)}(h:Nd s r d):Rp id (d.map (·.1))=true:=by
 induction h with
 |n=>rfl
 | @c s j e r d C B u=>
  simp only[D8,Rp,u,Bool.and_true,o7];intro x A;have:=B.mem x A;cases hb:Nat.beq (id x) (id j) with
  |false=>rfl
  |true=>
   have z:x=j:=w9 hb;exact absurd (by rw[z];exact Z8) this
 |s _ _ u=>exact u
theorem Mw{σ:AS}{ls:List Nat}:∀{d:List (Nat×VS)},(∀x∈d,aW σ.d x.1=some x.2)->E9 σ id ls d
 | [],_=> .nil
 | (i,B)::d,h=>by
  have u:=h _ Z8;have k:=Mw (ls:=ls) (fun x A=>h x (Z6 _ A));have z:∀l:List Slot,W5 σ id ls l l:=by
   intro l
   induction l with
   |nil=>exact .nil
   |cons s l C=>exact .cons (.of_eq (Dc s).symm) C
  cases B with
  |box T l E=>exact .box u (z l) k
  |arr T e xs=>exact .arr u k
  |mp e f m=>exact .mp u k
  |dp D x l=>exact .dp (by simpa using u) k
theorem Kp.sub{σ:AS}{ls ts:List Nat}{g':List (Nat×Slot)}(h:Kp σ.g ts g'):ae σ id ls g':=by
 induction h with
 |n=>exact .nil
 |c h _ u=>exact .cons h (.of_eq (Dc _).symm) u
theorem Mx{r:Nat->Nat}:∀{d:List (Nat×VS)},Rp id (d.map (·.1))=true->∀x∈d,aW d x.1=some x.2
 | [],_,x,h=>by cases h
 | (i,z)::d,u,x,h=>by
  simp only[D8,Rp,E7,o7] at u;rw[cK];rcases o6.1 h with rfl | h
  ·simp
  ·rw[WM,Mx (r:=r) u.2 x h];intro e;have:=u.1 x.1 (bq.2 ⟨x,h,rfl⟩);simp[e] at this
section
variable {F:XG}{ops:Array Oper}{σ σ':AS}
theorem HQ{ts dr:List Nat}{g':List (Nat×Slot)}{d':List (Nat×VS)}(hg:Kp σ.g ts g')(hd:Nd dr σ.d d'):Sub F σ ⟨g',d'⟩:=
 Sub.mk id hg.sub (Mw fun x h=>(hd.spec _ _ (Mx (r:=id) hd.inj x h)).2) hd.inj
theorem J.kp(ts dr:List Nat){g':List (Nat×Slot)}{d':List (Nat×VS)}(hg:Kp σ.g ts g':=by repeat (first | exact .n | (apply Kp.c;exact rfl)))
  (hd:Nd dr σ.d d':=by repeat (first | exact .n | (apply Nd.c;exact rfl) | (apply Nd.s;exact rfl))):J F ops [] σ ⟨g',d'⟩:=J.fin (HQ hg hd)
theorem aC(r:List (Nat×Nat))(hg:ae σ (rn r) (σ'.d.map (·.1)) σ'.g:=by repeat (first | exact .nil | refine .c rfl ?_ | refine .cons rfl (.I4 rfl rfl) ?_))
  (hd:E9 σ (rn r) (σ'.d.map (·.1)) σ'.d:=by repeat (first | exact .nil | refine .arr rfl ?_ | refine .mp rfl ?_ | refine .dp rfl ?_ | refine .box rfl (by repeat (first | exact .nil | refine .c rfl ?_ | refine .cons (.I4 rfl rfl) ?_)) ?_ | refine .aQo rfl (by repeat (first | exact .nil | refine .c rfl ?_ | refine .cons (.I4 rfl rfl) ?_)) ?_))
  (hi:Rp (rn r) (σ'.d.map (·.1))=true:=by rfl):Sub F σ σ':=Sub.mk (rn r) hg hd hi
end
end Go.Sw
namespace Go.Sw
open Go Go.RowKit
section
variable {F F':XG}{ops:Array Oper}{o:Oper}{os:List Oper}{σ σ' fq σ1:AS}{s s' s2:Slot}{new WB:List (Nat×VS)}{Q:Exit->Act->World->Prop}{cs:List Code}{OK:List (Nat×VS)->Prop}{its:List ZF}{id:Nat}
theorem J.g{t j:Nat}{want x:Bool}(hb:x=want)(h:JO F o σ s new)(k:J F ops os (σ.put o.dst s new) σ')(g:o.guard= .some (j,want):=by rfl)(ht:(ops[j]?).bind (·.dst)= .some t:=by rfl)(hx:lk σ.g t= .some (.v Wr.bool x):=by rfl)(hf:σ.free new=true:=by rfl)(hd:gR o.dst F.N=true:=by rfl):J F ops (o::os) σ σ':=J.cons (.met t g ht hx hb) h hf hd k
theorem XS.k(h:JO F o σ s new)(k:XS F ops OK os ⟨iS o.dst s σ.g,new++σ.d⟩ its σ')(g:o.guard= .none:=by rfl)(hd:gR o.dst F.N=true:=by rfl):XS F ops OK (o::os) σ (⟨s,new,new,Kr σ.g o,[]⟩::its) σ':= .cons (.none g) h hd k
theorem XS.g{t j:Nat}{want x:Bool}(hb:x=want)(h:JO F o σ s new)(k:XS F ops OK os ⟨iS o.dst s σ.g,new++σ.d⟩ its σ')(g:o.guard= .some (j,want):=by rfl)(ht:(ops[j]?).bind (·.dst)= .some t:=by rfl)(hx:lk σ.g t= .some (.v Wr.bool x):=by rfl)(hd:gR o.dst F.N=true:=by rfl):XS F ops OK (o::os) σ (⟨s,new,new,Kr σ.g o,[]⟩::its) σ':= .cons (.met t g ht hx hb) h hd k
theorem XS.w{t j:Nat}{want x:Bool}(hb:x= !want)(k:XS F ops OK os ⟨iS o.dst .top σ.g,σ.d⟩ its σ')(g:o.guard= .some (j,want):=by rfl)(ht:(ops[j]?).bind (·.dst)= .some t:=by rfl)(hx:lk σ.g t= .some (.v Wr.bool x):=by rfl)(hd:gR o.dst F.N=true:=by rfl):XS F ops OK (o::os) σ (⟨.top,[],[],Kr σ.g o,[]⟩::its) σ':= .left (.H7 t g ht hx hb) hd k
def Tp(ops:Array Oper):List Nat:=ops.toList.foldl (fun h o=>h++[(Ma o).foldl (fun m j=>m ||| 1 <<< j ||| h.getD j 0) 0]) []
theorem TV(n:Nat)(hm:F.P.follows .mixedOrders=true)(hp:XS F ops OK (ops.toList.take n) σ its σ1)(ht:J F ops (ops.toList.drop n) σ1 σ')(hOK:∀L,OK (Bw (fun i=>(its.getD i ⟨.top,[],[],[],[]⟩).nw) (fun i=>(its.getD i ⟨.top,[],[],[],[]⟩).dl) σ.d n L))(k:W F cs σ' Q)
  (hn:Nat.ble n ops.size=true:=by rfl) (T8:Da ops=true:=by decide+kernel) (yb:Xz ops (Tp ops)=true:=by decide+kernel) (au:Hh ops n (Tp ops)=true:=by decide+kernel) (yk:GZ its (Tp ops)=true:=by kernel_rfl) (om:HA σ its (Tp ops)=true:=by kernel_rfl):
  W F (.region id ops true::cs) σ Q:=OP OK n (Tp ops) hm hp ht hn T8 yb au yk om hOK k
theorem eD(n:Nat)(hm:F.P.follows .mixedOrders=true)(hp:XS F ops (fun _=>True) (ops.toList.take n) σ its σ1)(ht:J F ops (ops.toList.drop n) σ1 σ')(k:W F cs σ' Q)
  (hn:Nat.ble n ops.size=true:=by rfl) (T8:Da ops=true:=by decide+kernel) (yb:Xz ops (Tp ops)=true:=by decide+kernel) (au:Hh ops n (Tp ops)=true:=by decide+kernel) (yk:GZ its (Tp ops)=true:=by kernel_rfl) (om:HA σ its (Tp ops)=true:=by kernel_rfl):
  W F (.region id ops true::cs) σ Q:=OP _ n (Tp ops) hm hp ht hn T8 yb au yk om (fun _=>trivial) k
theorem eO{d:Option Tmp}{ty:TypeId}{p:String}{af:Array Edge}{gd:Option (Nat×Bool)}{f:FuncId}{xs:List Operand}{ts:Array TypeId}{ss:List Slot}{res:Slot}{YE WB:(Nat->Nat)->List (Nat×VS)}{D:List (Nat×VS)}{K:List Nat}(H:List Nat)(r:Nat->Nat)(hr:∀i j,r i=r j->i=j)
  (hc:∀A,VR F.P f ss (YE A) res (WB A)) (XX:∀args w,(callFunc f args).run F.P w= .ok (.enter f args) w) (D5:∀A,ZE σ r A (WB A) D K) (ha:A8 σ r xs ss:=by repeat (first | exact .nil | refine .cons (.dir rfl) ?_))
  (B2:∀A,A3 σ r A (YE A):=by intro _;repeat (first | exact .nil | refine .box rfl ?_ | refine .arr rfl ?_ | refine .mp rfl ?_ | refine .dp rfl ?_))
  (hH:∀A,(YE A).map (fun x=>r x.1)=H:=by intro _;rfl) (YF:Az σ.g (iZ σ.d H) H K D=true:=by rfl) (O2:Oy σ H D=true:=by rfl) (YO:∀A,lE res (WB A)=true:=by intro _;rfl) (ix:K.all (fun k=>iI k H)=true:=by rfl) (c9:gR d F.N=true:=by rfl):
  JM F ⟨d,.call ⟨.value (.func f),xs.toArray,ts⟩,ty,p,af,gd⟩ σ ⟨iS d (res.map r) σ.g,D++iZ σ.d H⟩:=sQ r hr hc XX ha B2 D5 hH YF O2 YO ix c9
theorem TW{ops:List Oper}{y:Code}(h:J F ops.toArray ops σ σ')(k:W F (y::cs) σ' Q):W F (.seq (.region id ops.toArray false) y::cs) σ Q:=aF (eF h k)
theorem aU{c:Tmp}{x y:Code}{b:Bool}{α:Type}{p q z:α}(h:(bif b then p else q)=z)(hb:lk σ.g c=some (.v Wr.bool b))(ht:b=true->p=z->W F (x::cs) σ Q)(hf:b=false->q=z->W F (y::cs) σ Q):W F (.cond (.tmp c) x y::cs) σ Q:=
 Fw hb (fun e=>ht e (by subst e;exact h)) fun e=>hf e (by subst e;exact h)
theorem cd{b:Bool}{α:Type}{p q z:α}{P:Prop}(h:(bif b then p else q)=z)(ht:b=true->p=z->P)(hf:b=false->q=z->P):P:=by
 cases b
 ·exact hf rfl h
 ·exact ht rfl h
section
variable {fn:Func}{res:Slot}{t t' t2:Nat}
theorem kU(g':List (Nat×Slot))(ex:List (Nat×VS))(hs:Sub F' σ ⟨g',ex++WB⟩)(k:XQ F' ⟨g',ex++WB⟩ (zR F fn res WB) .ret):XQ F' σ (zR F fn res WB) .ret:=bZ hs k
theorem eZ(hF:V9 F F')(B0:fn.results= #[.tmp t])(hs:Sub F' σ ⟨[(t,res)],WB⟩)(hn:B6 WB WB:=by repeat (first | exact .nil | refine .cons rfl ?_)):XQ F' σ (zR F fn res WB) .ret:=bZ hs (eU hF B0 (.tmp (by simp[lk])) hn)
theorem HR(hF:V9 F F')(B0:fn.results= #[.tmp t,.tmp t'])(hs:Sub F' σ ⟨[(t,s),(t',s')],WB⟩)(hn:B6 WB WB:=by repeat (first | exact .nil | refine .cons rfl ?_))(h:Nat.beq t t'=false:=by rfl):XQ F' σ (zR F fn (.WL [s,s']) WB) .ret:=
 bZ hs (dY hF B0 (.tmp (by simp[lk])) (.tmp (by simp only[lk,h,zl,pF,XT])) hn)
theorem My(hF:V9 F F')(B0:fn.results= #[.tmp t,.tmp t',.tmp t2])(hs:Sub F' σ ⟨[(t,s),(t',s'),(t2,s2)],WB⟩)(hn:B6 WB WB:=by repeat (first | exact .nil | refine .cons rfl ?_))(h:Nat.beq t t'=false:=by rfl)(h2:Nat.beq t t2=false:=by rfl)(h3:Nat.beq t' t2=false:=by rfl):XQ F' σ (zR F fn (.WL [s,s',s2]) WB) .ret:=
 bZ hs (zS hF B0 (.tmp (by simp[lk])) (.tmp (by simp only[lk,h,zl,pF,XT])) (.tmp (by simp only[lk,h2,h3,zl,pF,XT])) hn)
end
end
section
variable {F F':XG}{σ:AS}{s s' s2 res:Slot}{new:List (Nat×VS)}{fn:Func}{t t' t2:Nat}
theorem wM(hF:V9 F F')(hR:∀k,¬F.R k)(B0:fn.results= #[.tmp t])(hs:Sub F' σ ⟨[(t,res)],new⟩)(hn:B6 new new:=by repeat (first | exact .nil | refine .cons rfl ?_))(YO:lE res new=true:=by rfl):
  XQ F' σ (Ox F fn res new) .ret:=bZ hs (aY hF hR B0 (.tmp (by simp[lk])) hn YO)
theorem wN(hF:V9 F F')(hR:∀k,¬F.R k)(B0:fn.results= #[.tmp t,.tmp t'])(hs:Sub F' σ ⟨[(t,s),(t',s')],new⟩)(hn:B6 new new:=by repeat (first | exact .nil | refine .cons rfl ?_))(YO:lE (.WL [s,s']) new=true:=by rfl)(h:Nat.beq t t'=false:=by rfl):
  XQ F' σ (Ox F fn (.WL [s,s']) new) .ret:=bZ hs (bR hF hR B0 (.tmp (by simp[lk])) (.tmp (by simp only[lk,h,zl,pF,XT])) hn YO)
end
theorem sO{α:Type}{e:Wr α}{x:α}:M5 [.v e x] e x:=M5.one e x
end Go.Sw
namespace Go.Sw
open Go Go.RowKit
def tl{α:Type}:List (Nat×α)->Nat->Option α
 | [],_=>none
 | (i,s)::r,t=>bif Nat.beq i t then some s else tl r t
inductive Tb {α:Type} (p:Nat->α->Prop):List (Nat×α)->Prop
 |n:Tb p []
 |c {i:Nat} {x:α} {l:List (Nat×α)}:p i x->Tb p l->Tb p ((i,x)::l)
theorem Tb.at{α:Type}{p:Nat->α->Prop}{l:List (Nat×α)}(h:Tb p l){i:Nat}{x:α}(hl:tl l i=some x):p i x:=by
 induction h with
 |n=>cases hl
 | @c j y l u _ z=>
  simp only[tl] at hl;cases hb:Nat.beq j i with
  |true=>rw[hb] at hl;cases hl;rw[<-w9 hb];exact u
  |false=>rw[hb] at hl;exact z hl
class fT (P:Program) where
 ag:List (Nat×Bool)
 hg:Tb (fun T v=>∀w,(isAgg T).run P w= .ok v w) ag
 sz:List (Nat×Nat)
 hs:Tb (fun T v=>∀w,(sizeOf T).run P w= .ok v w) sz
 un:List (Nat×TypeDesc)
 hu:Tb (fun T v=>∀w,(underlying T).run P w= .ok v w) un
 et:TypeId
section
variable {F:XG}{ops:Array Oper}{os:List Oper}{σ σ' σ1:AS}{s s0:Slot}{d:Option Tmp}{x y z c:Operand}{ty:TypeId}{p:String}{af:Array Edge}{gd:Option (Nat×Bool)}{pb:Option Nat}
def JA(F:XG)(ops:Array Oper)(n:Nat)(os:List Oper)(σ σ':AS)(Q:Prop):Prop:=Q->J F ops os σ σ'
theorem JA.z0{Q:Prop}(h:Q->J F ops os σ σ'):JA F ops 0 os σ σ' Q:=h
def J1(F:XG)(ops:Array Oper)(o:Oper)(σ σ1:AS):Prop:=∀{os:List Oper} {σ':AS},J F ops os σ1 σ'->J F ops (o::os) σ σ'
theorem JA.s1{Q:Prop}{n:Nat}{o:Oper}(h:J1 F ops o σ σ1)(k:JA F ops n os σ1 σ' Q):JA F ops (n+1) (o::os) σ σ' Q:=fun q=>h (k q)
theorem J1.o{o:Oper}{new:List (Nat×VS)}(h:JO F o σ s new)(g:GK ops σ.g o true)(hf:σ.free new=true)(hd:gR o.dst F.N=true):J1 F ops o σ (σ.put o.dst s new):=fun k=>J.cons g h hf hd k
theorem J1.w{o:Oper}(g:GK ops σ.g o false)(hd:gR o.dst F.N=true):J1 F ops o σ (σ.put o.dst .top []):=fun k=>J.left g hd k
theorem TX{o:Oper}(h:JM F o σ σ1)(g:GK ops σ.g o true):J1 F ops o σ σ1:=fun k=>Zx g h k
theorem RX{g:List (Nat×Slot)}{o:Oper}{j:Nat}{want:Bool}{t:Tmp}{x:Bool}(h:o.guard= .some (j,want))(ht:(ops[j]?).bind (·.dst)= .some t)(hx:lk g t= .some (.v Wr.bool x))(hb:x=want):GK ops g o true:= .met t h ht hx hb
theorem RY{g:List (Nat×Slot)}{o:Oper}{j:Nat}{want:Bool}{t:Tmp}{x:Bool}(h:o.guard= .some (j,want))(ht:(ops[j]?).bind (·.dst)= .some t)(hx:lk g t= .some (.v Wr.bool x))(hb:x= !want):GK ops g o false:= .H7 t h ht hx hb
section
variable {id:Nat}{cs:List Code}{Q:Exit->Act->World->Prop}
def JW(F:XG)(ops:Array Oper)(os:List Oper)(cs:List Code)(σ:AS)(Q:Exit->Act->World->Prop):Prop:=∃σ',J F ops os σ σ'/\W F cs σ' Q
theorem gC{ops:List Oper}(h:JW F ops.toArray ops cs σ Q):W F (.region id ops.toArray false::cs) σ Q:=by
 obtain⟨_,h,k⟩:=h;exact eF h k
theorem JW.k{o:Oper}{new:List (Nat×VS)}(h:JO F o σ s new)(k:JW F ops os cs (σ.put o.dst s new) Q)(g:o.guard= .none:=by rfl)(hf:σ.free new=true:=by rfl)(hd:gR o.dst F.N=true:=by rfl):JW F ops (o::os) cs σ Q:=by
 obtain⟨σ',u,k⟩:=k;exact⟨σ',J.k h u g hf hd,k⟩
theorem JW.t{o:Oper}(h:JM F o σ σ1)(k:JW F ops os cs σ1 Q)(g:o.guard= .none:=by rfl):JW F ops (o::os) cs σ Q:=by
 obtain⟨σ',u,k⟩:=k;exact⟨σ',J.t h u g,k⟩
theorem JW.sub(h:Sub F σ σ')(k:JW F ops os cs σ' Q):JW F ops os cs σ Q:=by
 obtain⟨_,u,k⟩:=k;exact⟨_,J.sub h u,k⟩
end
section
theorem oL[tb:fT F.P]{T U:TypeId}{l:List Slot}{i off:Nat}(hx:dB σ.g x=some (.ptr i off))(he:aW σ.d i=some (.box T l pb))(ho:nJ l off=some s)(ha:tl tb.ag U=some s.ag)(hs:tl tb.sz U=some s.sz):JO F ⟨d,.load U x,ty,p,af,gd⟩ σ s []:=aI hx he ho (tb.hg.at ha) (tb.hs.at hs)
theorem oF[tb:fT F.P]{U:TypeId}{fs:Array Field}{n i off m:Nat}{fl:Field}(hx:dB σ.g x=some (.ptr i off))(hu:tl tb.un U=some (.struct fs))(hf:fs[n]? =some fl)(hm:tl tb.sz fl.type=some m)(YZ:Nat.beq m 0=false):JO F ⟨d,.fieldAddr U x n,ty,p,af,gd⟩ σ (.ptr i (off+fl.offset)) []:=aA _ hx (tb.hu.at hu) hf (tb.hs.at hm) YZ (zl _)
theorem oE[tb:fT F.P]{α:Type}{e:Wr α}{xs:List α}{U E:TypeId}(hx:dB σ.g x=some (.v (Wr.sl e) xs))(hu:tl tb.un U=some (.slice E)):JO F ⟨d,.call ⟨.builtin .len,#[x],#[U]⟩,ty,p,af,gd⟩ σ (.v (Wr.int .i64) xs.length) []:=uZ hx (tb.hu.at hu)
theorem UU[tb:fT F.P]{α:Type}{e:Wr α}{xs:List α}{T U E:TypeId}{i:Nat}(hx:dB σ.g x=some (.ref i))(he:aW σ.d i=some (.arr T e xs))(hu:tl tb.un U=some (.slice E)):JO F ⟨d,.call ⟨.builtin .len,#[x],#[U]⟩,ty,p,af,gd⟩ σ (.v (Wr.int .i64) xs.length) []:=Rn hx he (tb.hu.at hu)
theorem oP[tb:fT F.P]{α:Type}{e:Wr α}{v:α}{U:TypeId}(hx:dB σ.g x=some (.YA e v))(ha:tl tb.ag U=some e.agg)(hs:tl tb.sz U=some e.n):JO F ⟨d,.load U x,ty,p,af,gd⟩ σ (.v e v) []:=cE hx (tb.hg.at ha) (tb.hs.at hs)
theorem oI[tb:fT F.P]{α:Type}{e:Wr α}{xs:List α}{v:α}{U E:TypeId}{k:IntKind}{n:Int}(hx:dB σ.g x=some (.v (Wr.sl e) xs))(hy:dB σ.g y=some (.v (Wr.int k) n))(hz:Sw.idx xs n=some v)(hu:tl tb.un U=some (.slice E))(hm:tl tb.sz E=some e.n):JO F ⟨d,.indexAddr U x y,ty,p,af,gd⟩ σ (.YA e v) []:=qG hz hx hy (tb.hu.at hu) (tb.hs.at hm)
theorem oN[tb:fT F.P]{T U U':TypeId}{o:Option Int}{ms:Array (String×TypeId)}(hx:dB σ.g x=some (.v (Wr.err T) o))(hu:tl tb.un U=some (.interface ms)):JO F ⟨d,.binOp .neq U x (.const .nilIface) U',ty,p,af,gd⟩ σ (.v Wr.bool o.isSome) []:=GF (tb.hu.at hu) hx
theorem oK[tb:fT F.P]{T:TypeId}{n:Int}(hx:dB σ.g x=some (.v (Wr.int .i64) n))(hu:tl tb.un T=some (.int .i64)):JO F ⟨d,.makeInterface T x,ty,p,af,gd⟩ σ (.v (Wr.err T) (some n)) []:=GC (tb.hu.at hu) hx
theorem oZ[tb:fT F.P]:JO F ⟨d,.assign (.const .nilIface),ty,p,af,gd⟩ σ (.v (Wr.err tb.et) none) []:=zC _
theorem oV[tb:fT F.P]{A B:TypeId}{da:TypeDesc}{k k':IntKind}{n:Int}(hx:dB σ.g x=some (.v (Wr.int k) n))(ha:tl tb.un A=some da)(hb:tl tb.un B=some (.int k')):JO F ⟨d,.convert A B x,ty,p,af,gd⟩ σ (.v (Wr.int k') (k'.wrap n)) []:=AA (tb.hu.at ha) (tb.hu.at hb) hx
theorem oS[tb:fT F.P]{T U n:TypeId}{l:List Slot}{i off:Nat}(hx:dB σ.g x=some (.ptr i off))(he:aW σ.d i=some (.box T l pb))(ho:nJ l off=some s0)(hy:dB σ.g y=some s)(hp:s.plain=true)(hn:tl tb.sz U=some n)(q7:Nat.beq s.sz n=true)(J4:Nat.beq s0.sz n=true):
  JM F ⟨none,.store U x y,ty,p,af,gd⟩ σ ⟨σ.g,(i,.box T (nW l off s) pb)::σ.d⟩:=Uc hx he ho hy hp q7 J4 (tb.hs.at hn)
theorem oW[tb:fT F.P]{T U n:TypeId}{l l':List Slot}{i:Nat}(hx:dB σ.g x=some (.ptr i 0))(he:aW σ.d i=some (.box T l pb))(hy:dB σ.g y=some (.agg l'))(hn:tl tb.sz U=some n)(hl:(l.map Slot.sz).sum=n)(V4:(l'.map Slot.sz).sum=n)(hnt:l'.all Slot.plain=true):
  JM F ⟨none,.store U x y,ty,p,af,gd⟩ σ ⟨σ.g,(i,.box T l' pb)::σ.d⟩:=Jw hx he hl hy V4 hnt (tb.hs.at hn)
theorem oT{b:Bool}(hc:dB σ.g c=some (.v Wr.bool b))(hb:b=true)(hx:dB σ.g x=some s):JO F ⟨d,.pick c x y,ty,p,af,gd⟩ σ s []:=xJ hb hc hx
theorem oU{b:Bool}(hc:dB σ.g c=some (.v Wr.bool b))(hb:b=false)(hx:dB σ.g y=some s):JO F ⟨d,.pick c x y,ty,p,af,gd⟩ σ s []:=uC hb hc hx
theorem jo{o:Oper}{new:List (Nat×VS)}(k:JO F o σ s new:=by first
 | ((with_reducible apply aD);exact rfl)
 | ((with_reducible apply bM);exact rfl)
 | ((with_reducible apply oF);exact rfl;exact rfl;exact rfl;exact rfl;exact rfl)
 | ((with_reducible apply oL);exact rfl;exact rfl;exact rfl;exact rfl;exact rfl)
 | ((with_reducible apply jR);exact rfl;exact rfl;exact rfl)
 | ((with_reducible apply aK);exact rfl)
 | ((with_reducible apply bU);exact rfl;exact rfl)
 | ((with_reducible apply dF);exact rfl;exact rfl;exact rfl)
 | ((with_reducible apply oE);exact rfl;exact rfl)
 | ((with_reducible apply oI);exact rfl;exact rfl;assumption;exact rfl;exact rfl)
 | ((with_reducible apply oP);exact rfl;exact rfl;exact rfl)
 | ((with_reducible apply oN);exact rfl;exact rfl)
 | ((with_reducible apply oT);exact rfl;(first | assumption | exact rfl);exact rfl)
 | ((with_reducible apply oU);exact rfl;(first | assumption | exact rfl);exact rfl)
 | ((with_reducible apply oZ))
 | ((with_reducible apply oK);exact rfl;exact rfl)
 | ((with_reducible apply oV);exact rfl;exact rfl;exact rfl)
 | ((with_reducible apply Ir);exact rfl)
 | ((with_reducible apply UU);exact rfl;exact rfl;exact rfl)):JO F o σ s new:=k
theorem gk{g:List (Nat×Slot)}{o:Oper}(k:GK ops g o true:=by first
 |exact GK.none rfl
 |exact RX rfl rfl rfl (by first | assumption | exact rfl)):GK ops g o true:=k
theorem gu{g:List (Nat×Slot)}{o:Oper}(k:GK ops g o false:=by exact RY rfl rfl rfl (by first | assumption | exact rfl)):GK ops g o false:=k
theorem jm{o:Oper}(k:JM F o σ σ1:=by first
 | ((with_reducible apply oS);exact rfl;exact rfl;exact rfl;exact rfl;exact rfl;exact rfl;exact rfl;exact rfl)
 | ((with_reducible apply oW);exact rfl;exact rfl;exact rfl;exact rfl;exact rfl;exact rfl;exact rfl)):JM F o σ σ1:=k
theorem js{o:Oper}(k:J1 F ops o σ σ1:=by first
 | (apply J1.o;exact jo;exact gk;exact rfl;exact rfl)
 | (apply J1.w;exact gu;exact rfl)
 | (apply TX;exact jm;exact gk)):J1 F ops o σ σ1:=k
theorem ja(n:Nat){Q:Prop}(k:Q)(h:JA F ops n os σ σ' Q:=by
 repeat ((with_reducible apply JA.s1);exact js)
 exact JA.z0 fun q=>q):J F ops os σ σ':=h k
def JZ(F:XG)(ops:Array Oper)(ts:List Nat)(os:List Oper)(σ σ':AS):Prop:=J F ops os σ σ'
theorem JZ.s1{ts:List Nat}{o:Oper}(h:J1 F ops o σ σ1)(k:JZ F ops ts os σ1 σ'):JZ F ops ts (o::os) σ σ':=h k
theorem JZ.z0{ts:List Nat}{g':List (Nat×Slot)}{d':List (Nat×VS)}(hg:Kp σ.g ts g')(hd:Nd [] σ.d d'):JZ F ops ts [] σ ⟨g',d'⟩:=J.fin (HQ hg hd)
theorem jz(ts:List Nat)(h:JZ F ops ts os σ σ':=by
 repeat (apply JZ.s1;exact js)
 apply JZ.z0
 ·repeat (first | exact .n | (apply Kp.c;exact rfl))
 ·repeat (first | exact .n | (apply Nd.c;exact rfl) | (apply Nd.s;exact rfl))):J F ops os σ σ':=h
theorem jy(h:JZ F ops [] os σ σ':=by
 repeat (apply JZ.s1;exact js)
 exact J.fin (aC [])):J F ops os σ σ':=h
variable {OK:List (Nat×VS)->Prop}{it:ZF}{its:List ZF}{id:Nat}{cs:List Code}{Q:Exit->Act->World->Prop}
def P1(F:XG)(ops:Array Oper)(OK:List (Nat×VS)->Prop)(o:Oper)(σ σ1:AS)(it:ZF):Prop:=∀{os:List Oper} {σ':AS} {its:List ZF},XS F ops OK os σ1 its σ'->XS F ops OK (o::os) σ (it::its) σ'
theorem P1.o{o:Oper}{new:List (Nat×VS)}(h:JO F o σ s new)(g:GK ops σ.g o true)(hd:gR o.dst F.N=true):P1 F ops OK o σ ⟨iS o.dst s σ.g,new++σ.d⟩ ⟨s,new,new,Kr σ.g o,[]⟩:=fun k=> .cons g h hd k
theorem P1.w{o:Oper}(g:GK ops σ.g o false)(hd:gR o.dst F.N=true):P1 F ops OK o σ ⟨iS o.dst .top σ.g,σ.d⟩ ⟨.top,[],[],Kr σ.g o,[]⟩:=fun k=> .left g hd k
theorem RZ[tb:fT F.P]{T U n:TypeId}{l:List Slot}{i off:Nat}(g:GK ops σ.g ⟨none,.store U x y,ty,p,af,gd⟩ true)(hx:dB σ.g x=some (.ptr i off))(he:aW σ.d i=some (.box T l pb))(ho:nJ l off=some s0)(hy:dB σ.g y=some s)(hp:s.plain=true)(hn:tl tb.sz U=some n)(q7:Nat.beq s.sz n=true)(J4:Nat.beq s0.sz n=true):
  P1 F ops OK ⟨none,.store U x y,ty,p,af,gd⟩ σ ⟨σ.g,(i,.box T (nW l off s) pb)::σ.d⟩ ⟨.top,[(i,.box T (nW l off s) pb)],[],Kr σ.g ⟨none,.store U x y,ty,p,af,gd⟩,[]⟩:=fun k=>XS.store g hx he ho hy hp q7 J4 (tb.hs.at hn) k
theorem p1{o:Oper}(k:P1 F ops OK o σ σ1 it:=by first
 | (apply P1.o;exact jo;exact gk;exact rfl)
 | (apply P1.w;exact gu;exact rfl)
 | ((with_reducible apply RZ);exact gk;exact rfl;exact rfl;exact rfl;exact rfl;exact rfl;exact rfl;exact rfl;exact rfl)):P1 F ops OK o σ σ1 it:=k
theorem XS.s1{o:Oper}(h:P1 F ops OK o σ σ1 it)(k:XS F ops OK os σ1 its σ'):XS F ops OK (o::os) σ (it::its) σ':=h k
theorem MH(n:Nat)(ts:List Nat)(hm:F.P.follows .mixedOrders=true)(k:W F cs σ' Q)(hp:XS F ops (fun _=>True) (ops.toList.take n) σ its σ1:=by
  repeat (apply XS.s1;exact p1)
  exact .nil) (ht:JZ F ops ts (ops.toList.drop n) σ1 σ':=by
  repeat (apply JZ.s1;exact js)
  apply JZ.z0
  ·repeat (first | exact .n | (apply Kp.c;exact rfl))
  ·repeat (first | exact .n | (apply Nd.c;exact rfl) | (apply Nd.s;exact rfl)))
  (hn:Nat.ble n ops.size=true:=by rfl) (T8:Da ops=true:=by decide+kernel) (yb:Xz ops (Tp ops)=true:=by decide+kernel) (au:Hh ops n (Tp ops)=true:=by decide+kernel) (yk:GZ its (Tp ops)=true:=by kernel_rfl) (om:HA σ its (Tp ops)=true:=by kernel_rfl):
  W F (.region id ops true::cs) σ Q:=eD n hm hp ht k hn T8 yb au yk om
theorem sF(n:Nat)(hm:F.P.follows .mixedOrders=true)(k:W F cs σ' Q)(hp:XS F ops (fun _=>True) (ops.toList.take n) σ its σ1:=by
  repeat (apply XS.s1;exact p1)
  exact .nil) (ht:JZ F ops [] (ops.toList.drop n) σ1 σ':=by
  repeat (apply JZ.s1;exact js)
  exact J.fin (aC []))
  (hn:Nat.ble n ops.size=true:=by rfl) (T8:Da ops=true:=by decide+kernel) (yb:Xz ops (Tp ops)=true:=by decide+kernel) (au:Hh ops n (Tp ops)=true:=by decide+kernel) (yk:GZ its (Tp ops)=true:=by kernel_rfl) (om:HA σ its (Tp ops)=true:=by kernel_rfl):
  W F (.region id ops true::cs) σ Q:=eD n hm hp ht k hn T8 yb au yk om
theorem JW.f(ts:List Nat)(k:W F cs σ' Q)(h:JZ F ops ts os σ σ':=by
 repeat (apply JZ.s1;exact js)
 apply JZ.z0
 ·repeat (first | exact .n | (apply Kp.c;exact rfl))
 ·repeat (first | exact .n | (apply Nd.c;exact rfl) | (apply Nd.s;exact rfl))):JW F ops os cs σ Q:=⟨_,h,k⟩
def JWA(F:XG)(ops:Array Oper)(n:Nat)(os:List Oper)(cs:List Code)(σ:AS)(Q:Exit->Act->World->Prop)(R:Prop):Prop:=R->JW F ops os cs σ Q
theorem JWA.s1{R:Prop}{n:Nat}{o:Oper}(h:J1 F ops o σ σ1)(k:JWA F ops n os cs σ1 Q R):JWA F ops (n+1) (o::os) cs σ Q R:=fun r=>by
 obtain⟨σ',u,k⟩:=k r;exact⟨σ',h u,k⟩
theorem JWA.z0:JWA F ops 0 os cs σ Q (JW F ops os cs σ Q):=fun r=>r
theorem JW.a(n:Nat){R:Prop}(k:R)(h:JWA F ops n os cs σ Q R:=by
 repeat ((with_reducible apply JWA.s1);exact js)
 exact JWA.z0):JW F ops os cs σ Q:=h k
theorem eV{ops:List Oper}(ts:List Nat)(k:W F cs σ' Q)(h:JZ F ops.toArray ts ops σ σ':=by
 repeat (apply JZ.s1;exact js)
 apply JZ.z0
 ·repeat (first | exact .n | (apply Kp.c;exact rfl))
 ·repeat (first | exact .n | (apply Nd.c;exact rfl) | (apply Nd.s;exact rfl))):W F (.region id ops.toArray false::cs) σ Q:=eF h k
theorem aL{ops:List Oper}{y:Code}(ts:List Nat)(k:W F (y::cs) σ' Q)(h:JZ F ops.toArray ts ops σ σ':=by
 repeat (apply JZ.s1;exact js)
 apply JZ.z0
 ·repeat (first | exact .n | (apply Kp.c;exact rfl))
 ·repeat (first | exact .n | (apply Nd.c;exact rfl) | (apply Nd.s;exact rfl))):W F (.seq (.region id ops.toArray false) y::cs) σ Q:=aF (eF h k)
theorem dI{ops:List Oper}{y z:Code}(ts:List Nat)(k:W F (y::z::cs) σ' Q)(h:JZ F ops.toArray ts ops σ σ':=by
 repeat (apply JZ.s1;exact js)
 apply JZ.z0
 ·repeat (first | exact .n | (apply Kp.c;exact rfl))
 ·repeat (first | exact .n | (apply Nd.c;exact rfl) | (apply Nd.s;exact rfl))):W F (.seq (.seq (.region id ops.toArray false) y) z::cs) σ Q:=aF (aF (eF h k))
theorem aJ{ops:List Oper}{y:Code}(h:JW F ops.toArray ops (y::cs) σ Q):W F (.seq (.region id ops.toArray false) y::cs) σ Q:=aF (gC h)
theorem jW{ops:List Oper}{y z:Code}(h:JW F ops.toArray ops (y::z::cs) σ Q):W F (.seq (.seq (.region id ops.toArray false) y) z::cs) σ Q:=aF (aF (gC h))
end
end
end Go.Sw
namespace Go.Mo
open Go Go.Sw
abbrev aQ:=List Int
abbrev aM:Wr aQ:=Wr.arr 8 (Wr.int .u8)
def aS:aQ:=List.replicate 8 0
abbrev dJ:=((Unit×Unit) ⊕ ((Unit×Unit) ⊕ (Unit×Unit)))
abbrev gG(a p:Nat):Wr dJ:=(qH (Wr.L8 206 (Wr.o5 a) kP) (qH (Wr.L8 207 (Wr.o5 a) kP) (Wr.L8 208 kP (Wr.o5 p)) rfl rfl rfl rfl) rfl rfl rfl rfl)
abbrev dK:=((Unit×(Unit×Int)) ⊕ (Unit×Unit))
abbrev iG(a p:Nat):Wr dK:=(qH (Wr.L8 249 kP (Wr.pr (Wr.o5 p) (Wr.pt (Wr.int .u8)))) (Wr.L8 207 (Wr.o5 a) kP) rfl rfl rfl rfl)
abbrev aE:=((Unit×(Unit×(List (Int×aQ)))) ⊕ ((Unit×(Unit×(Int×(Int×aQ)))) ⊕ ((Unit×(Unit×(Int×(Int×aQ)))) ⊕ ((Unit×Unit) ⊕ ((Unit×Unit) ⊕ ((Unit×Unit) ⊕ ((Unit×Unit) ⊕ (Unit×Unit))))))))
abbrev bO(a p:Nat):Wr aE:=(qH (Wr.L8 214 kP (Wr.pr (Wr.o5 p) (Wr.pt (Wr.sl (Wr.pr (Wr.int .i64) aM))))) (qH (Wr.L8 216 kP (Wr.pr (Wr.o5 p) (Wr.pr (Wr.pt (Wr.int .i64)) (Wr.pt (Wr.pr (Wr.int .i64) aM))))) (qH (Wr.L8 217 kP (Wr.pr (Wr.o5 p) (Wr.pr (Wr.pt (Wr.int .i64)) (Wr.pt (Wr.pr (Wr.int .i64) aM))))) (qH (Wr.L8 207 (Wr.o5 a) kP) (qH (Wr.L8 218 kP (Wr.o5 p)) (qH (Wr.L8 206 (Wr.o5 a) kP) (qH (Wr.L8 207 (Wr.o5 a) kP) (Wr.L8 219 kP (Wr.o5 p)) rfl rfl rfl rfl) rfl rfl rfl rfl) rfl rfl rfl rfl) rfl rfl rfl rfl) rfl rfl rfl rfl) rfl rfl rfl rfl) rfl rfl rfl rfl)
abbrev lS:=(Unit ⊕ (((Option ((List aQ)×(List (aQ×(List Int)))))) ⊕ (((List aQ)) ⊕ (Unit ⊕ Unit))))
abbrev BC:Wr lS:=(vN 322 kP (vN 324 (Wr.J2 (Wr.B7 (Wr.pr (Wr.sl aM) (Wr.X2 aM (Wr.sl (Wr.int .i64)))))) (vN 326 (Wr.J2 (Wr.sl aM)) (vN 327 kP MB rfl rfl) rfl rfl) rfl rfl) rfl rfl)
abbrev dN:=((List aQ)×(List (Int×aQ))×Int)
abbrev pB:=(Int×(List (Int×aQ))×(List (Int×(List (Int×aQ))))×Bool)
abbrev pI:=(Int×Int×(List (Int×(List Int)×(List aQ))))
abbrev mH:=(List (Bool×Bool×(List Int)))
abbrev eE:=(List aQ)
abbrev cZ:=(List Int)
abbrev mN:=(List (Int×aQ))
abbrev Pb:=(Int×Int×Int×aQ)
abbrev sC:=(List (Int×eE))
abbrev qP:=(Int×Int)
abbrev wS:=(List (Int×cZ×eE))
abbrev Ks:=(List (Int×aQ×Int×Int×Int×eE))
abbrev sG:=(List (Int×mN))
abbrev eB:=(Option Int)
abbrev xL:=(List Pb)
def rP(a0:Int):Option (Int×eB):=
 (bif (cm .lss a0 1) then
  some true
 else
  some (cm .gtr a0 32)).bind fun h=>
  bif h then
   some (0,(some 1))
  else
   some ((ar .add .i64 (ar .add .i64 (ar .add .i64 a0 1) 2) (ar .mul .i64 2 (ar .add .i64 a0 1))),(none:Option Int))
def xM(a0:Int):Option (dN×eB):=
 (bif (cm .lss a0 1) then
  some true
 else
  some (cm .gtr a0 200)).bind fun h=>
  bif h then
   some ((([]:eE),([]:mN),0),(some 1))
  else
   (Sw.mk a0 aS).bind fun u=>
    some ((u,([]:mN),(-1:Int)),(none:Option Int))
def qY(a0:Int):Option (dN×eB):=
 (rP a0).bind fun h=>
  bif (Option.isSome h.2) then
   some ((([]:eE),([]:mN),0),h.2)
  else
   (xM h.1).bind fun u=>
    some (u.1,u.2)
def lT(a0:(Int×aQ))(a1:dN):Option (Bool):=
 (bif (cm .lss a0.1 0) then
  some true
 else
  some (cm .geq a0.1 (a1.1.length:Int))).bind fun h=>
  some h
def dL(a0:mN)(XN:dN):Option (Int):=
 lp (β:=Unit) (fun (h:Int)=>
  bif (cm .lss h (a0.length:Int)) then
   (Sw.idx a0 h).bind fun u=>
    (lT u XN).bind fun z=>
     bif z then
      some (.done (.ret h))
     else
      some (.next (ar .add .i64 h 1))
  else
   some (.done (.WN ()))
  ) 0 fun (_:Unit)=>
 some (-1:Int)
def cH(a0:mN)(XN:dN):Option (Bool):=
 (dL a0 XN).bind fun h=>
  some (cm .geq h 0)
def mS(a0:dN):Option (eB):=
 (bif (cm .lss (a0.1.length:Int) 1) then
  some true
 else
  bif (cm .gtr (a0.1.length:Int) 200) then
   some true
  else
   some (cm .gtr (a0.2.1.length:Int) 800)).bind fun h=>
  bif h then
   some (some 2)
  else
   (cH a0.2.1 a0).bind fun u=>
    bif u then
     some (some 1)
    else
     some (none:Option Int)
def kJ(a0:(Bool×eE)):Option (eE):=
 bif a0.1 then
  some ([]:eE)
 else
  (Sw.app ([]:eE) a0.2).bind fun h=>
   some h
def aP(a0:eE):Option eE:=Sw.app [] a0
def fS(a0:mN):Option (mN):=
 some a0
def iT(a0:dN)(a1:Int):Option (aQ×eB):=
 (mS a0).bind fun h=>
  bif (Option.isSome h) then
   some (aS,h)
  else
   (bif (cm .lss a1 0) then
    some true
   else
    some (cm .geq a1 (a0.1.length:Int))).bind fun A=>
    bif A then
     some (aS,(some 1))
    else
     bif (cm .eql a0.2.2 0) then
      some (aS,(some 4))
     else
      (fS a0.2.1).bind fun u=>
       (Sw.small u).bind fun _=>
        rg (δ:=aQ) (fun (z:(Int×(Int×aQ))) (_:Unit)=>
         bif (cm .eql z.2.1 a1) then
          some (.done z.2.2)
         else
          some (.next ())
         ) (Sw.G6 u) () (fun (_:Unit)=>
         (Sw.idx a0.1 a1).bind fun B=>
          some (B,(none:Option Int))
         ) fun (C:aQ)=>
         some (C,(none:Option Int))
def gQ(a0:aQ):Option (Int):=
 (Sw.idx a0 0).bind fun h=>
  (Sw.idx a0 1).bind fun u=>
   (Sw.idx a0 2).bind fun z=>
    (Sw.idx a0 3).bind fun A=>
     some (ar .or .i64 (ar .or .i64 (ar .or .i64 (sh .shl .i64 h 24) (sh .shl .i64 u 16)) (sh .shl .i64 z 8)) A)
def lU(a0:(Bool×mN)):Option (mN):=
 bif a0.1 then
  some ([]:mN)
 else
  (Sw.app ([]:mN) a0.2).bind fun h=>
   some h
def bT(a0:mN):Option mN:=Sw.app [] a0
def rQ(a0:dN):Option (dN):=
 (aP a0.1).bind fun h=>
  (bT a0.2.1).bind fun u=>
   some (h,u,a0.2.2)
def jJ(VY:eE)(WI:mN)(ij:Int):Option (eB×eE×mN×Int):=
 bif (cm .eql ij 0) then
  some ((some 4),VY,WI,ij)
 else
  jp (fun (u:Int)=>
   some ((none:Option Int),VY,WI,u)
   ) fun h=>
  bif (cm .gtr ij 0) then
   h (ar .sub .i64 ij 1)
  else
   h ij
def rR(a0:dN)(a1:Int)(a2:aQ):Option (dN×eB):=
 (mS a0).bind fun z=>
  bif (Option.isSome z) then
   some ((([]:eE),([]:mN),0),z)
  else
   (bif (cm .lss a1 0) then
    some true
   else
    some (cm .geq a1 (a0.1.length:Int))).bind fun A=>
    bif A then
     some ((([]:eE),([]:mN),0),(some 1))
    else
     bif (cm .eql (a0.2.1.length:Int) 800) then
      some ((([]:eE),([]:mN),0),(some 2))
     else
      (rQ a0).bind fun u=>
       (jJ u.1 u.2.1 u.2.2).bind fun h=>
        bif (Option.isSome h.1) then
         some ((([]:eE),([]:mN),0),h.1)
        else
         (Sw.app h.2.2.1 ([(a1,a2)]:mN)).bind fun B=>
          some ((h.2.1,B,h.2.2.2),(none:Option Int))
def eC(VY:Int)(WI:dN)(a1:Int)(a2:aQ):Option (eB×Int×dN):=
 (rR WI a1 a2).bind fun h=>
  jp (fun (z:dN)=>
   some (h.2,VY,z)
   ) fun u=>
  bif (Option.isNone h.2) then
   u h.1
  else
   u WI
def gU(VY:Int)(WI:dN):Option (eB×Int×dN):=
 (iT WI (ar .add .i64 VY 2)).bind fun C=>
  lp (β:=eB×Int×dN) (fun (h:eB×Int×Int×dN)=>
   (bif (Option.isNone h.1) then
    (gQ C.1).bind fun F=>
     some (cm .lss h.2.1 F)
   else
    some false).bind fun G=>
    bif G then
     (iT h.2.2.2 (ar .add .i64 (ar .add .i64 h.2.2.1 3) (ar .mul .i64 2 h.2.1))).bind fun u=>
      jp (fun (z:eB×aQ)=>
       bif (Option.isNone z.1) then
        (gQ u.1).bind fun H=>
         (eC h.2.2.1 h.2.2.2 H z.2).bind fun A=>
          some (.next (A.1,(ar .add .i64 h.2.1 1),A.2.1,A.2.2))
       else
        some (.next (z.1,(ar .add .i64 h.2.1 1),h.2.2.1,h.2.2.2))
       ) fun D=>
      bif (Option.isNone u.2) then
       (iT h.2.2.2 (ar .add .i64 (ar .add .i64 h.2.2.1 4) (ar .mul .i64 2 h.2.1))).bind fun E=>
        D (E.2,E.1)
      else
       D (u.2,aS)
    else
     some (.done (.WN (h.1,h.2.2.1,h.2.2.2)))
   ) (C.2,0,VY,WI) fun (B:eB×Int×dN)=>
  some (B.1,B.2.1,B.2.2)
def rS(a0:dN):Option (dN×eB):=
 (mS a0).bind fun B=>
  bif (Option.isSome B) then
   some ((([]:eE),([]:mN),0),B)
  else
   (rQ a0).bind fun z=>
    (jJ z.1 z.2.1 z.2.2).bind fun h=>
     bif (Option.isSome h.1) then
      some ((([]:eE),([]:mN),0),h.1)
     else
      lp (β:=eE) (fun (u:Int×eE)=>
       bif (cm .lss u.1 (h.2.2.1.length:Int)) then
        (Sw.idx h.2.2.1 u.1).bind fun A=>
         (Sw.idx u.2 A.1).bind fun _=>
          some (.next ((ar .add .i64 u.1 1),(List.set u.2 (Int.toNat A.1) A.2)))
       else
        some (.done (.WN u.2))
       ) (0,h.2.1) fun (C:eE)=>
      some ((C,([]:mN),h.2.2.2),(none:Option Int))
def eW(VY:Int)(WI:dN):Option (eB×Int×dN):=
 (rS WI).bind fun h=>
  jp (fun (z:dN)=>
   some (h.2,VY,z)
   ) fun u=>
  bif (Option.isNone h.2) then
   u h.1
  else
   u WI
def iU(a1 aa:Int)(ek:dN):Option (eB×Int×dN):=
 (eC aa ek (ar .add .i64 aa 1) ([a1]++List.replicate 7 0:aQ)).bind fun h=>
  some (h.1,h.2.1,h.2.2)
def lH(q:dK)(n0:Int)(n1:dN):Option (eB×Int×dN):=match q with
 | .inl z=>iU z.2.2 n0 n1
 | .inr z=>eW n0 n1
def gK(a0:(List dK))(XN:Int)(l4:dN):Option (eB×Int×dN):=
 lp (β:=Int×dN) (fun (h:Int×Int×dN)=>
  bif (cm .lss h.1 (a0.length:Int)) then
   (Sw.idx a0 h.1).bind fun A=>
    (lH A h.2.1 h.2.2).bind fun u=>
     bif (Option.isSome u.1) then
      some (.done (.ret (u.1,u.2.1,u.2.2)))
     else
      some (.next ((ar .add .i64 h.1 1),u.2.1,u.2.2))
  else
   some (.done (.WN (h.2.1,h.2.2)))
  ) (0,XN,l4) fun (z:Int×dN)=>
 some ((none:Option Int),z.1,z.2)
def fX(VY:Int)(WI:dN)(a1:Int):Option (eB×Int×dN):=
 (gK ([(.inl ((),((),a1)):dK),(.inr ((),()):dK)]:(List dK)) VY WI).bind fun h=>
  some (h.1,h.2.1,h.2.2)
def mJ(XN:Int)(l4:dN):Option (eB×Int×dN):=
 (fX XN l4 0).bind fun h=>
  some (h.1,h.2.1,h.2.2)
def nD(q:dJ)(n0:Int)(n1:dN):Option (eB×Int×dN):=match q with
 | .inl z=>gU n0 n1
 | .inr (.inl z)=>eW n0 n1
 | .inr (.inr z)=>mJ n0 n1
def iY(a0:(List dJ))(XN:Int)(l4:dN):Option (eB×Int×dN):=
 lp (β:=Int×dN) (fun (h:Int×Int×dN)=>
  bif (cm .lss h.1 (a0.length:Int)) then
   (Sw.idx a0 h.1).bind fun A=>
    (nD A h.2.1 h.2.2).bind fun u=>
     bif (Option.isSome u.1) then
      some (.done (.ret (u.1,u.2.1,u.2.2)))
     else
      some (.next ((ar .add .i64 h.1 1),u.2.1,u.2.2))
  else
   some (.done (.WN (h.2.1,h.2.2)))
  ) (0,XN,l4) fun (z:Int×dN)=>
 some ((none:Option Int),z.1,z.2)
def iV(VY:Int)(WI:dN):Option (eB×Int×dN):=
 (iT WI (ar .add .i64 VY 1)).bind fun h=>
  (bif (Option.isSome h.2) then
   some true
  else
   (Sw.idx h.1 0).bind fun z=>
    some (cm .eql z 0)).bind fun A=>
   bif A then
    some (h.2,VY,WI)
   else
    (iY ([(.inl ((),()):dJ),(.inr (.inl ((),())):dJ),(.inr (.inr ((),())):dJ)]:(List dJ)) VY WI).bind fun u=>
     some (u.1,u.2.1,u.2.2)
def mT(a0:dN)(a1:Int):Option ((Option (Int×dN))×eB):=
 (rP a1).bind fun u=>
  bif (Option.isSome u.2) then
   some ((none:(Option (Int×dN))),u.2)
  else
   (mS a0).bind fun z=>
    (bif (Option.isSome z) then
     some true
    else
     bif (cm .neq (a0.1.length:Int) u.1) then
      some true
     else
      some (cm .gtr (a0.2.1.length:Int) 0)).bind fun A=>
     bif A then
      some ((none:(Option (Int×dN))),(some 5))
     else
      (aP a0.1).bind fun B=>
       (iV a1 (B,([]:mN),a0.2.2)).bind fun h=>
        bif (Option.isSome h.1) then
         some ((none:(Option (Int×dN))),h.1)
        else
         some ((some (h.2.1,h.2.2)),(none:Option Int))
def jC(a0:Int):Option ((Option (Int×dN))×eB):=
 (qY a0).bind fun h=>
  bif (Option.isSome h.2) then
   some ((none:(Option (Int×dN))),h.2)
  else
   (mT h.1 a0).bind fun u=>
    uT u.1 (
     some ((none:(Option (Int×dN))),u.2)
     ) fun z=>
     some ((some (z.1,z.2)),u.2)
def fY(a0:(Int×dN)):Option (Int×Int×eB):=
 (iT a0.2 a0.1).bind fun h=>
  bif (Option.isSome h.2) then
   some (0,0,h.2)
  else
   (gQ h.1).bind fun u=>
    (Sw.W7 h.1 4 8 8).bind fun z=>
     (Sw.sub h.1 0 4).bind fun A=>
      (Sw.app z A).bind fun B=>
       (Sw.u1 8 B).bind fun C=>
        (gQ C).bind fun D=>
         some (u,D,(none:Option Int))
def jD(a0:(Int×aQ))(a1:(Option (Int×dN))):Option (Bool):=
 (bif (cm .lss a0.1 0) then
  some true
 else
  (a1).bind fun h=>
   some (cm .geq a0.1 h.1)).bind fun u=>
  some u
def cQ(a0:mN)(XN:(Option (Int×dN))):Option (Int):=
 lp (β:=Unit) (fun (h:Int)=>
  bif (cm .lss h (a0.length:Int)) then
   (Sw.idx a0 h).bind fun u=>
    (jD u XN).bind fun z=>
     bif z then
      some (.done (.ret h))
     else
      some (.next (ar .add .i64 h 1))
  else
   some (.done (.WN ()))
  ) 0 fun (_:Unit)=>
 some (-1:Int)
def bX(a0:mN)(XN:(Option (Int×dN))):Option (Bool):=
 (cQ a0 XN).bind fun h=>
  some (cm .geq h 0)
def kK(a0:Int):Option (aQ):=
 some ([(IntKind.wrap .u8 (sh .shr .i64 a0 24)),(IntKind.wrap .u8 (sh .shr .i64 a0 16)),(IntKind.wrap .u8 (sh .shr .i64 a0 8)),(IntKind.wrap .u8 a0)]++List.replicate 4 0:aQ)
def gX(a1:mN)(aa:Int)(ek:dN):Option (eB×Int×dN):=
 (kK (a1.length:Int)).bind fun u=>
  (eC aa ek (ar .add .i64 aa 2) u).bind fun h=>
   some (h.1,h.2.1,h.2.2)
def gY(a1:Int)(a2:(Int×aQ))(Z9:Int)(ei:dN):Option (eB×Int×dN):=
 (kK a2.1).bind fun u=>
  (eC Z9 ei (ar .add .i64 (ar .add .i64 Z9 3) (ar .mul .i64 2 a1)) u).bind fun h=>
   some (h.1,h.2.1,h.2.2)
def gZ(a1:Int)(a2:(Int×aQ))(Z9:Int)(ei:dN):Option (eB×Int×dN):=
 (eC Z9 ei (ar .add .i64 (ar .add .i64 Z9 4) (ar .mul .i64 2 a1)) a2.2).bind fun h=>
  some (h.1,h.2.1,h.2.2)
def hC(XN:Int)(l4:dN):Option (eB×Int×dN):=
 (fX XN l4 1).bind fun h=>
  some (h.1,h.2.1,h.2.2)
def hO(XN:Int)(l4:dN):Option (eB×Int×dN):=
 (fX XN l4 0).bind fun h=>
  some (h.1,h.2.1,h.2.2)
def iJ(q:aE)(n0:Int)(n1:dN):Option (eB×Int×dN):=match q with
 | .inl z=>gX z.2.2 n0 n1
 | .inr (.inl z)=>gY z.2.2.1 z.2.2.2 n0 n1
 | .inr (.inr (.inl z))=>gZ z.2.2.1 z.2.2.2 n0 n1
 | .inr (.inr (.inr (.inl z)))=>eW n0 n1
 | .inr (.inr (.inr (.inr (.inl z))))=>hC n0 n1
 | .inr (.inr (.inr (.inr (.inr (.inl z)))))=>gU n0 n1
 | .inr (.inr (.inr (.inr (.inr (.inr (.inl z))))))=>eW n0 n1
 | .inr (.inr (.inr (.inr (.inr (.inr (.inr z))))))=>hO n0 n1
def eS(a0:(List aE))(XN:Int)(l4:dN):Option (eB×Int×dN):=
 lp (β:=Int×dN) (fun (h:Int×Int×dN)=>
  bif (cm .lss h.1 (a0.length:Int)) then
   (Sw.idx a0 h.1).bind fun A=>
    (iJ A h.2.1 h.2.2).bind fun u=>
     bif (Option.isSome u.1) then
      some (.done (.ret (u.1,u.2.1,u.2.2)))
     else
      some (.next ((ar .add .i64 h.1 1),u.2.1,u.2.2))
  else
   some (.done (.WN (h.2.1,h.2.2)))
  ) (0,XN,l4) fun (z:Int×dN)=>
 some ((none:Option Int),z.1,z.2)
def cV(VY:Int)(WI:dN)(a1:mN)(a2 a3:Int):Option (eB×Int×dN):=
 bif (cm .gtr (a1.length:Int) VY) then
  some ((some 2),VY,WI)
 else
  (bif (cm .lss (min a2 a3) 0) then
   some true
  else
   bif (cm .gtr (max a2 a3) 2147483647) then
    some true
   else
    (bX a1 (some (VY,WI))).bind fun B=>
     some B).bind fun C=>
   bif C then
    some ((some 1),VY,WI)
   else
    (kK a2).bind fun D=>
     (kK a3).bind fun E=>
      (bT a1).bind fun F=>
       (Sw.W7 D 0 4 4).bind fun G=>
        (Sw.sub E 0 4).bind fun H=>
         (Sw.app G H).bind fun I=>
          (Sw.u1 8 I).bind fun K=>
           (Sw.app F ([(VY,K)]:mN)).bind fun u=>
            lp (β:=(List aE)) (fun (h:Int×(List aE))=>
             bif (cm .lss h.1 (u.length:Int)) then
              (Sw.idx u h.1).bind fun A=>
               (Sw.app h.2 ([(.inr (.inl ((),((),(h.1,A)))):aE),(.inr (.inr (.inl ((),((),(h.1,A))))):aE)]:(List aE))).bind fun L=>
                some (.next ((ar .add .i64 h.1 1),L))
             else
              some (.done (.WN h.2))
             ) (0,([(.inl ((),((),u)):aE)]:(List aE))) fun (M:(List aE))=>
            (Sw.app M ([(.inr (.inr (.inr (.inl ((),())))):aE),(.inr (.inr (.inr (.inr (.inl ((),()))))):aE),(.inr (.inr (.inr (.inr (.inr (.inl ((),())))))):aE),(.inr (.inr (.inr (.inr (.inr (.inr (.inl ((),()))))))):aE),(.inr (.inr (.inr (.inr (.inr (.inr (.inr ((),()))))))):aE)]:(List aE))).bind fun N=>
             (eS N VY WI).bind fun z=>
              some (z.1,z.2.1,z.2.2)
def jE(b0 b1 b2 b3:Int)(b4:eE)(b5:pB)(b6:sC)(b7:Int)(b8:pI)(b9 WZ:Int)(WY:cZ)(XF WU XC WX:Int)(XB:qP)(WS:mH)(XM:Int)(XL:dN):Option (eB×Int×Int×Int×dN):=
 (fY (XM,XL)).bind fun h=>
  bif (Option.isSome h.2.2) then
   some (h.2.2,b2,b3,XM,XL)
  else
   (cV XM XL ([]:mN) h.1 (ar .add .i64 h.2.1 1)).bind fun u=>
    some (u.1,h.1,(ar .add .i64 h.2.1 1),u.2.1,u.2.2)
def kQ(a0:(Int×dN))(a1:Int):Option (aQ×eB):=
 (bif (cm .lss a1 0) then
  some true
 else
  some (cm .geq a1 a0.1)).bind fun u=>
  bif u then
   some (aS,(some 1))
  else
   (iT a0.2 a1).bind fun h=>
    some (h.1,h.2)
def gD(a0:(Int×dN)):Option (eE×eB):=
 lp (β:=eE) (fun (h:Int×eE)=>
  bif (cm .lss h.1 a0.1) then
   (kQ a0 h.1).bind fun u=>
    bif (Option.isSome u.2) then
     some (.done (.ret (([]:eE),u.2)))
    else
     (Sw.app h.2 ([u.1]:eE)).bind fun z=>
      some (.next ((ar .add .i64 h.1 1),z))
  else
   some (.done (.WN h.2))
  ) (0,([]:eE)) fun (A:eE)=>
 some (A,(none:Option Int))
def fQ(b0 b1 b2 b3:Int)(b4:eE)(b5:pB)(b6:sC)(b7:Int)(b8:pI)(b9 WZ:Int)(WY:cZ)(XF WU XC WX:Int)(XB:qP)(WS:mH)(XM:Int)(XL:dN):Option (sC):=
 (aP b4).bind fun h=>
  (Hc b6 b2 h).bind fun u=>
   some (Ge u (ar .sub .i64 (ar .sub .i64 b2 4) 1))
def fE(b0 b1 b2 b3:Int)(b4:eE)(b5:pB)(b6:sC)(b7:Int)(b8:pI)(b9 WZ:Int)(WY:cZ)(XF WU XC WX:Int)(XB:qP)(WS:mH)(XM:Int)(XL:dN):Option (eB×Int×Int×Int×eE×pB×sC×Int×pI×Int×Int×cZ×Int×dN):=
 (jE b0 b0 0 0 ([]:eE) (0,([]:mN),([]:sG),false) ([]:List (Int×eE)) (-1:Int) (0,0,([]:wS)) 0 0 ([]:cZ) XF WU XC WX XB WS XM XL).bind fun h=>
  bif (Option.isSome h.1) then
   some (h.1,b0,h.2.1,h.2.2.1,([]:eE),(0,([]:mN),([]:sG),false),([]:List (Int×eE)),(-1:Int),(0,0,([]:wS)),0,0,([]:cZ),h.2.2.2.1,h.2.2.2.2)
  else
   (gD h.2.2.2).bind fun u=>
    (fQ b0 b0 h.2.1 h.2.2.1 u.1 (h.2.1,([]:mN),([]:sG),true) ([]:List (Int×eE)) (-1:Int) (0,0,([]:wS)) 0 0 ([]:cZ) XF WU XC WX XB WS h.2.2.2.1 h.2.2.2.2).bind fun z=>
     some (u.2,b0,h.2.1,h.2.2.1,u.1,(h.2.1,([]:mN),([]:sG),true),z,(-1:Int),(0,0,([]:wS)),0,0,([]:cZ),h.2.2.2.1,h.2.2.2.2)
def gH(b0 b1 b2 b3:Int)(b4:eE)(b5:pB)(b6:sC)(b7:Int)(b8:pI)(b9 WZ:Int)(WY:cZ)(XF WU XC WX:Int)(XB:qP)(WS:mH)(XM:Int)(XL:dN)(XJ:Int)(XI:dN):Option (eB×Int×Int×Int×dN):=
 (fY (XJ,XI)).bind fun h=>
  bif (Option.isSome h.2.2) then
   some (h.2.2,WU,XC,XJ,XI)
  else
   (cV XJ XI ([]:mN) h.1 (ar .add .i64 h.2.1 1)).bind fun u=>
    some (u.1,h.1,(ar .add .i64 h.2.1 1),u.2.1,u.2.2)
def gO(b0 b1 b2 b3:Int)(b4:eE)(b5:pB)(b6:sC)(b7:Int)(b8:pI)(b9 WZ:Int)(WY:cZ)(XF WU XC WX:Int)(XB:qP)(WS:mH)(XM:Int)(XL:dN)(XJ:Int)(XI:dN):Option (eB×Int×Int×Int×Int×qP×Int×dN):=
 (gH b0 b1 b2 b3 b4 b5 b6 b7 b8 b9 WZ WY b0 0 0 (-1:Int) (0,0) WS XM XL XJ XI).bind fun h=>
  some (h.1,b0,h.2.1,h.2.2.1,(-1:Int),(0,0),h.2.2.2.1,h.2.2.2.2)
def iK(a0:Int):Option ((Option (Int×Int×Int×Int×eE×pB×sC×Int×pI×Int×Int×cZ×Int×Int×Int×Int×qP×mH×Int×dN×Int×dN))×eB):=
 (jC a0).bind fun z=>
  uT z.1 (
   bif (Option.isSome z.2) then
    some ((none:_),z.2)
   else
    (jC a0).bind fun A=>
     uT A.1 (
      bif (Option.isSome A.2) then
       some ((none:_),A.2)
      else
       none
      ) fun _=>
      bif (Option.isSome A.2) then
       some ((none:_),A.2)
      else
       none
   ) fun C=>
   bif (Option.isSome z.2) then
    some ((none:_),z.2)
   else
    (jC a0).bind fun B=>
     uT B.1 (
      bif (Option.isSome B.2) then
       some ((none:_),B.2)
      else
       (fE a0 a0 0 0 ([]:eE) (0,([]:mN),([]:sG),false) ([]:sC) 0 (0,0,([]:wS)) 0 0 ([]:cZ) a0 0 0 0 (0,0) ([]:mH) C.1 C.2).bind fun D=>
        bif (Option.isSome D.1) then
         some ((none:_),D.1)
        else
         none
      ) fun E=>
      bif (Option.isSome B.2) then
       some ((none:_),B.2)
      else
       (fE a0 a0 0 0 ([]:eE) (0,([]:mN),([]:sG),false) ([]:sC) 0 (0,0,([]:wS)) 0 0 ([]:cZ) a0 0 0 0 (0,0) ([]:mH) C.1 C.2).bind fun h=>
        bif (Option.isSome h.1) then
         some ((none:_),h.1)
        else
         (gO a0 h.2.1 h.2.2.1 h.2.2.2.1 h.2.2.2.2.1 h.2.2.2.2.2.1 h.2.2.2.2.2.2.1 h.2.2.2.2.2.2.2.1 h.2.2.2.2.2.2.2.2.1 h.2.2.2.2.2.2.2.2.2.1 h.2.2.2.2.2.2.2.2.2.2.1 h.2.2.2.2.2.2.2.2.2.2.2.1 a0 0 0 0 (0,0) ([]:mH) h.2.2.2.2.2.2.2.2.2.2.2.2.1 h.2.2.2.2.2.2.2.2.2.2.2.2.2 E.1 E.2).bind fun u=>
          some ((some (a0,h.2.1,h.2.2.1,h.2.2.2.1,h.2.2.2.2.1,h.2.2.2.2.2.1,h.2.2.2.2.2.2.1,h.2.2.2.2.2.2.2.1,h.2.2.2.2.2.2.2.2.1,h.2.2.2.2.2.2.2.2.2.1,h.2.2.2.2.2.2.2.2.2.2.1,h.2.2.2.2.2.2.2.2.2.2.2.1,u.2.1,u.2.2.1,u.2.2.2.1,u.2.2.2.2.1,u.2.2.2.2.2.1,([]:mH),h.2.2.2.2.2.2.2.2.2.2.2.2.1,h.2.2.2.2.2.2.2.2.2.2.2.2.2,u.2.2.2.2.2.2.1,u.2.2.2.2.2.2.2)),u.1)
def uE(a0:Int):Option (Nat):=
 bif (cm .eql a0 0) then
  some (0:Nat)
 else
  bif (cm .eql a0 1) then
   some (1:Nat)
  else
   bif (cm .eql a0 2) then
    some (2:Nat)
   else
    bif (cm .eql a0 3) then
     some (3:Nat)
    else
     bif (cm .eql a0 4) then
      some (4:Nat)
     else
      bif (cm .eql a0 5) then
       some (5:Nat)
      else
       bif (cm .eql a0 6) then
        some (6:Nat)
       else
        bif (cm .eql a0 7) then
         some (7:Nat)
        else
         bif (cm .eql a0 8) then
          some (8:Nat)
         else
          bif (cm .eql a0 9) then
           some (9:Nat)
          else
           bif (cm .eql a0 10) then
            some (10:Nat)
           else
            some (11:Nat)
def lV(a0:mN)(a1:Int):Option (Bool):=
 lp (β:=Unit) (fun (h:Int×Int)=>
  bif (cm .lss h.2 (a0.length:Int)) then
   (Sw.idx a0 h.2).bind fun u=>
    (bif (cm .leq u.1 h.1) then
     some true
    else
     some (cm .geq u.1 a1)).bind fun z=>
     bif z then
      some (.done (.ret false))
     else
      some (.next (u.1,(ar .add .i64 h.2 1)))
  else
   some (.done (.WN ()))
  ) ((-1:Int),0) fun (_:Unit)=>
 some true
def lL(a0:pB)(a1:Int):Option (eB):=
 (bif (cm .lss a1 1) then
  some true
 else
  bif (cm .gtr a1 32) then
   some true
  else
   bif (cm .lss a0.1 0) then
    some true
   else
    some (cm .gtr a0.1 2147483647)).bind fun z=>
  bif z then
   some (some 1)
  else
   bif (cm .gtr (a0.2.2.1.length:Int) 4) then
    some (some 2)
   else
    ((lV a0.2.1 a1).bind fun A=>
     bif (!A) then
      some true
     else
      bif a0.2.2.2 then
       some (cm .gtr (a0.2.2.1.length:Int) 0)
      else
       some false).bind fun B=>
     bif B then
      some (some 3)
     else
      lp (β:=Unit) (fun (h:Int)=>
       bif (cm .lss h (a0.2.2.1.length:Int)) then
        (Sw.idx a0.2.2.1 h).bind fun u=>
         ((lV u.2 a1).bind fun C=>
          bif (!C) then
           some true
          else
           bif (cm .neq u.1 (ar .add .i64 (ar .add .i64 (ar .sub .i64 a0.1 (a0.2.2.1.length:Int)) 1) h)) then
            some true
           else
            some (cm .lss u.1 1)).bind fun D=>
          bif D then
           some (.done (.ret (some 3)))
          else
           some (.next (ar .add .i64 h 1))
       else
        some (.done (.WN ()))
       ) 0 fun (_:Unit)=>
      some (none:Option Int)
def jF(a0:(Bool×sG)):Option (sG):=
 bif a0.1 then
  some ([]:sG)
 else
  (Sw.app ([]:sG) a0.2).bind fun h=>
   some h
def gP(a0:sG):Option sG:=Sw.app [] a0
def nE(a0:pB):Option (pB):=
 (bT a0.2.1).bind fun z=>
  (gP a0.2.2.1).bind fun u=>
   lp (β:=sG) (fun (h:Int×sG)=>
    bif (cm .lss h.1 (u.length:Int)) then
     (Sw.idx h.2 h.1).bind fun A=>
      (bT A.2).bind fun B=>
       (Sw.idx h.2 h.1).bind fun C=>
        some (.next ((ar .add .i64 h.1 1),(List.set h.2 (Int.toNat h.1) (C.1,B))))
    else
     some (.done (.WN h.2))
    ) (0,u) fun (D:sG)=>
   some (a0.1,z,D,a0.2.2.2)
def sR(a0:(Int×aQ))(a1:Int):Option (Int):=
 some (ar .sub .i64 a0.1 a1)
def bY(a0:mN)(a1:Int):Option (Int×Bool):=
 lp (β:=Int) (fun (h:Int×Int)=>
  bif (cm .lss h.1 h.2) then
   (Sw.idx a0 (IntKind.wrap .i64 (sh .shr .u64 (IntKind.wrap .u64 (ar .add .i64 h.1 h.2)) 1))).bind fun z=>
    (sR z a1).bind fun A=>
     bif (cm .lss A 0) then
      some (.next ((ar .add .i64 (IntKind.wrap .i64 (sh .shr .u64 (IntKind.wrap .u64 (ar .add .i64 h.1 h.2)) 1)) 1),h.2))
     else
      some (.next (h.1,(IntKind.wrap .i64 (sh .shr .u64 (IntKind.wrap .u64 (ar .add .i64 h.1 h.2)) 1))))
  else
   some (.done (.WN h.1))
  ) (0,(a0.length:Int)) fun (u:Int)=>
 (bif (cm .lss u (a0.length:Int)) then
  (Sw.idx a0 u).bind fun B=>
   (sR B a1).bind fun C=>
    some (cm .eql C 0)
 else
  some false).bind fun D=>
  some (u,D)
def gL(a0:mN)(a1:Int)(a2:mN):Option (mN):=Sw.ins a0 a1 a2
def tN(a0:pB)(a1:Int)(a2:(Int×aQ)):Option (pB×eB):=
 (lL a0 a1).bind fun z=>
  bif (Option.isSome z) then
   some ((0,([]:mN),([]:sG),false),z)
  else
   (bif (cm .lss a2.1 0) then
    some true
   else
    some (cm .geq a2.1 a1)).bind fun B=>
    bif B then
     some ((0,([]:mN),([]:sG),false),(some 1))
    else
     (nE a0).bind fun h=>
      (bY h.2.1 a2.1).bind fun u=>
       jp (fun (C:mN)=>
        some ((h.1,C,h.2.2.1,h.2.2.2),(none:Option Int))
        ) fun A=>
       bif u.2 then
        (Sw.idx h.2.1 u.1).bind fun _=>
         A (List.set h.2.1 (Int.toNat u.1) a2)
       else
        (gL h.2.1 u.1 ([a2]:mN)).bind fun D=>
         A D
def eX(a1:Int)(a2:aQ)(b0 b1 b2 b3:Int)(b4:eE)(b5:pB)(b6:sC)(b7:Int)(b8:pI)(b9 WZ:Int)(WY:cZ)(XF WU XC WX:Int)(XB:qP)(WS:mH)(XM:Int)(XL:dN)(XJ:Int)(XI:dN):Option (eB×eE×pB):=
 (tN b5 b0 (a1,a2)).bind fun h=>
  bif (Option.isSome h.2) then
   some (h.2,b4,b5)
  else
   (Sw.idx b4 a1).bind fun _=>
    some ((none:Option Int),(List.set b4 (Int.toNat a1) a2),h.1)
def nN(a1:Pb)(b0 b1 b2 b3:Int)(b4:eE)(b5:pB)(b6:sC)(b7:Int)(b8:pI)(b9 WZ:Int)(WY:cZ)(XF WU XC WX:Int)(XB:qP)(WS:mH)(XM:Int)(XL:dN)(XJ:Int)(XI:dN):Option (aQ×eB×Int×Int×Int×Int×eE×pB×sC×Int×pI×Int×Int×cZ×Int×Int×Int×Int×qP×mH×Int×dN×Int×dN):=
 (eX a1.2.1 a1.2.2.2 b0 b1 b2 b3 b4 b5 b6 b7 b8 b9 WZ WY XF WU XC WX XB WS XM XL XJ XI).bind fun h=>
  some (aS,h.1,b0,b1,b2,b3,h.2.1,h.2.2,b6,b7,b8,b9,WZ,WY,XF,WU,XC,WX,XB,WS,XM,XL,XJ,XI)
def nO(a1:Pb)(b0 b1 b2 b3:Int)(b4:eE)(b5:pB)(b6:sC)(b7:Int)(b8:pI)(b9 WZ:Int)(WY:cZ)(XF WU XC WX:Int)(XB:qP)(WS:mH)(XM:Int)(XL:dN)(XJ:Int)(XI:dN):Option (aQ×eB×Int×Int×Int×Int×eE×pB×sC×Int×pI×Int×Int×cZ×Int×Int×Int×Int×qP×mH×Int×dN×Int×dN):=
 (eX a1.2.1 aS b0 b1 b2 b3 b4 b5 b6 b7 b8 b9 WZ WY XF WU XC WX XB WS XM XL XJ XI).bind fun h=>
  some (aS,h.1,b0,b1,b2,b3,h.2.1,h.2.2,b6,b7,b8,b9,WZ,WY,XF,WU,XC,WX,XB,WS,XM,XL,XJ,XI)
def fZ(a1 b0 b1 b2 b3:Int)(b4:eE)(b5:pB)(b6:sC)(b7:Int)(b8:pI)(b9 WZ:Int)(WY:cZ)(XF WU XC WX:Int)(XB:qP)(WS:mH)(XM:Int)(XL:dN)(XJ:Int)(XI:dN):Option (aQ×eB):=
 (bif (cm .lss a1 0) then
  some true
 else
  some (cm .geq a1 b0)).bind fun h=>
  bif h then
   some (aS,(some 1))
  else
   (Sw.idx b4 a1).bind fun u=>
    some (u,(none:Option Int))
def nP(a1:Pb)(b0 b1 b2 b3:Int)(b4:eE)(b5:pB)(b6:sC)(b7:Int)(b8:pI)(b9 WZ:Int)(WY:cZ)(XF WU XC WX:Int)(XB:qP)(WS:mH)(XM:Int)(XL:dN)(XJ:Int)(XI:dN):Option (aQ×eB×Int×Int×Int×Int×eE×pB×sC×Int×pI×Int×Int×cZ×Int×Int×Int×Int×qP×mH×Int×dN×Int×dN):=
 (fZ a1.2.1 b0 b1 b2 b3 b4 b5 b6 b7 b8 b9 WZ WY XF WU XC WX XB WS XM XL XJ XI).bind fun h=>
  some (h.1,h.2,b0,b1,b2,b3,b4,b5,b6,b7,b8,b9,WZ,WY,XF,WU,XC,WX,XB,WS,XM,XL,XJ,XI)
def jU(a1:mN)(a2 b0 b1 b2 b3:Int)(b4:eE)(b5:pB)(b6:sC)(b7:Int)(b8:pI)(b9 WZ:Int)(WY:cZ)(XF WU XC WX:Int)(XB:qP)(WS:mH)(XM:Int)(XL:dN)(XJ:Int)(XI:dN):Option (eB×Int×Int×dN):=
 (cV XM XL a1 a2 b3).bind fun h=>
  bif (Option.isSome h.1) then
   some (h.1,b2,h.2.1,h.2.2)
  else
   some ((none:Option Int),a2,h.2.1,h.2.2)
def rT(a0:pB)(a1:Int):Option (pB×eB):=
 (lL a0 a1).bind fun u=>
  bif (Option.isSome u) then
   some ((0,([]:mN),([]:sG),false),u)
  else
   bif (cm .eql a0.1 2147483647) then
    some ((0,([]:mN),([]:sG),false),(some 2))
   else
    (nE a0).bind fun h=>
     bif h.2.2.2 then
      some (((ar .add .i64 h.1 1),([]:mN),h.2.2.1,h.2.2.2),(none:Option Int))
     else
      bif (cm .eql (h.2.2.1.length:Int) 4) then
       some (((ar .add .i64 h.1 1),([]:mN),([]:sG),true),(none:Option Int))
      else
       (Sw.app h.2.2.1 ([((ar .add .i64 h.1 1),h.2.1)]:sG)).bind fun z=>
        some (((ar .add .i64 h.1 1),([]:mN),z,h.2.2.2),(none:Option Int))
def eP(b0 b1 b2 b3:Int)(b4:eE)(b5:pB)(b6:sC)(b7:Int)(b8:pI)(b9 WZ:Int)(WY:cZ)(XF WU XC WX:Int)(XB:qP)(WS:mH)(XM:Int)(XL:dN)(XJ:Int)(XI:dN):Option (sC):=
 (aP b4).bind fun h=>
  (Hc b6 b2 h).bind fun u=>
   some (Ge u (ar .sub .i64 (ar .sub .i64 b2 4) 1))
def fV(b0 b1 b2 b3:Int)(b4:eE)(b5:pB)(b6:sC)(b7:Int)(b8:pI)(b9 WZ:Int)(WY:cZ)(XF WU XC WX:Int)(XB:qP)(WS:mH)(XM:Int)(XL:dN)(XJ:Int)(XI:dN):Option (eB×Int×pB×sC×Int×dN):=
 (jU b5.2.1 (ar .add .i64 b2 1) b0 b1 b2 b3 b4 b5 b6 b7 b8 b9 WZ WY XF WU XC WX XB WS XM XL XJ XI).bind fun h=>
  bif (Option.isSome h.1) then
   some (h.1,h.2.1,b5,b6,h.2.2.1,h.2.2.2)
  else
   (rT b5 b1).bind fun u=>
    (eP b0 b1 h.2.1 b3 b4 u.1 b6 b7 b8 b9 WZ WY XF WU XC WX XB WS h.2.2.1 h.2.2.2 XJ XI).bind fun z=>
     some (u.2,h.2.1,u.1,z,h.2.2.1,h.2.2.2)
def nQ(a1:Pb)(b0 b1 b2 b3:Int)(b4:eE)(b5:pB)(b6:sC)(b7:Int)(b8:pI)(b9 WZ:Int)(WY:cZ)(XF WU XC WX:Int)(XB:qP)(WS:mH)(XM:Int)(XL:dN)(XJ:Int)(XI:dN):Option (aQ×eB×Int×Int×Int×Int×eE×pB×sC×Int×pI×Int×Int×cZ×Int×Int×Int×Int×qP×mH×Int×dN×Int×dN):=
 (fV b0 b1 b2 b3 b4 b5 b6 b7 b8 b9 WZ WY XF WU XC WX XB WS XM XL XJ XI).bind fun h=>
  some (aS,h.1,b0,b1,h.2.1,b3,b4,h.2.2.1,h.2.2.2.1,b7,b8,b9,WZ,WY,XF,WU,XC,WX,XB,WS,h.2.2.2.2.1,h.2.2.2.2.2,XJ,XI)
def pR(a0:Int):Option (Bool):=
 (bif (cm .lss a0 0) then
  some true
 else
  some (cm .gtr a0 2147483647)).bind fun h=>
  some h
def eG(a0:cZ):Option (Int):=
 lp (β:=Unit) (fun (h:Int)=>
  bif (cm .lss h (a0.length:Int)) then
   (Sw.idx a0 h).bind fun u=>
    (pR u).bind fun z=>
     bif z then
      some (.done (.ret h))
     else
      some (.next (ar .add .i64 h 1))
  else
   some (.done (.WN ()))
  ) 0 fun (_:Unit)=>
 some (-1:Int)
def cW(a0:cZ):Option (Bool):=
 (eG a0).bind fun h=>
  some (cm .geq h 0)
def qB(a0:(Int×cZ×eE)):Option (eB):=
 (bif (cm .lss a0.1 0) then
  some true
 else
  some (cm .gtr a0.1 15)).bind fun h=>
  bif h then
   some (some 1)
  else
   (bif (cm .gtr (a0.2.1.length:Int) 12) then
    some true
   else
    some (cm .gtr (a0.2.2.length:Int) 32)).bind fun u=>
    bif u then
     some (some 2)
    else
     (cW a0.2.1).bind fun z=>
      bif z then
       some (some 1)
      else
       some (none:Option Int)
def tP(a0:cZ):Option (Int):=
 lp (β:=Int) (fun (h:Int×Int)=>
  bif (cm .lss h.2 (a0.length:Int)) then
   (Sw.idx a0 h.2).bind fun z=>
    lp (β:=Int) (fun (u:Int×Int)=>
     bif (cm .lss u.2 8) then
      some (.next ((ar .xor .u32 (sh .shr .u32 u.1 1) (ar .mul .u32 3988292384 (ar .and .u32 u.1 1))),(ar .add .i64 u.2 1)))
     else
      some (.done (.WN u.1))
     ) ((ar .xor .u32 h.1 z),0) fun (A:Int)=>
    some (.next (A,(ar .add .i64 h.2 1)))
  else
   some (.done (.WN h.1))
  ) (4294967295,0) fun (B:Int)=>
 some (CM .u32 B)
def mU(a0:(Int×cZ×eE)):Option (cZ×eB):=
 (qB a0).bind fun B=>
  bif (Option.isSome B) then
   some (([]:cZ),B)
  else
   lp (β:=cZ) (fun (u:Int×cZ)=>
    bif (cm .lss u.1 (a0.2.1.length:Int)) then
     (Sw.idx a0.2.1 u.1).bind fun E=>
      lp (β:=Int×cZ) (fun (h:Int×cZ)=>
       bif (cm .gtr h.1 127) then
        (Sw.app h.2 ([(ar .or .u8 (IntKind.wrap .u8 h.1) 128)]:cZ)).bind fun F=>
         some (.next ((sh .shr .i64 h.1 7),F))
       else
        some (.done (.WN (h.1,h.2)))
       ) (E,u.2) fun (C:Int×cZ)=>
      (Sw.app C.2 ([(IntKind.wrap .u8 C.1)]:cZ)).bind fun G=>
       some (.next ((ar .add .i64 u.1 1),G))
    else
     some (.done (.WN u.2))
    ) (0,([(ar .or .u8 (sh .shl .u8 (IntKind.wrap .u8 a0.1) 4) (IntKind.wrap .u8 (a0.2.1.length:Int))),(IntKind.wrap .u8 (a0.2.2.length:Int))]:cZ)) fun (H:cZ)=>
   lp (β:=cZ) (fun (z:Int×cZ)=>
    bif (cm .lss z.1 (a0.2.2.length:Int)) then
     (Sw.idx a0.2.2 z.1).bind fun I=>
      (Sw.app z.2 I).bind fun K=>
       some (.next ((ar .add .i64 z.1 1),K))
    else
     some (.done (.WN z.2))
    ) (0,H) fun (D:cZ)=>
   (tP D).bind fun A=>
    (Sw.app D ([(IntKind.wrap .u8 (sh .shr .u32 A 24)),(IntKind.wrap .u8 (sh .shr .u32 A 16)),(IntKind.wrap .u8 (sh .shr .u32 A 8)),(IntKind.wrap .u8 A)]:cZ)).bind fun L=>
     some (L,(none:Option Int))
def eN(a1:Bool)(a2:(Bool×cZ))(b0 b1 b2 b3:Int)(b4:eE)(b5:pB)(b6:sC)(b7:Int)(b8:pI)(b9 WZ:Int)(WY:cZ)(XF WU XC WX:Int)(XB:qP)(WS:mH)(XM:Int)(XL:dN)(XJ:Int)(XI:dN):Option (mH):=
 (bif (!a2.1) then
  some (cm .lss (WS.length:Int) 64)
 else
  some false).bind fun h=>
  bif h then
   (Sw.app WS ([(a1,false,a2.2)]:mH)).bind fun u=>
    some u
  else
   some WS
def iW(a1:Bool)(a2:(Int×cZ×eE))(b0 b1 b2 b3:Int)(b4:eE)(b5:pB)(b6:sC)(b7:Int)(b8:pI)(b9 WZ:Int)(WY:cZ)(XF WU XC WX:Int)(XB:qP)(WS:mH)(XM:Int)(XL:dN)(XJ:Int)(XI:dN):Option (eB×mH):=
 (mU a2).bind fun h=>
  jp (fun (z:mH)=>
   some (h.2,z)
   ) fun u=>
  bif (Option.isNone h.2) then
   (HJ h.1).bind fun _=>
    (eN a1 (false,h.1) b0 b1 b2 b3 b4 b5 b6 b7 b8 b9 WZ WY XF WU XC WX XB WS XM XL XJ XI).bind fun A=>
     u A
  else
   u WS
def nF(a0:pB)(a1 a2:Int):Option ((Int×mN)×Bool×eB):=
 (lL a0 a1).bind fun B=>
  bif (Option.isSome B) then
   some ((0,([]:mN)),false,B)
  else
   (bif (cm .lss a2 0) then
    some true
   else
    some (cm .gtr a2 a0.1)).bind fun E=>
    bif E then
     some ((0,([]:mN)),false,(some 1))
    else
     bif (cm .gtr (ar .sub .i64 a0.1 a2) (a0.2.2.1.length:Int)) then
      some ((0,([]:mN)),false,(none:Option Int))
     else
      lp (β:=(List (Option (Int×aQ)))) (fun (z:Int×(List (Option (Int×aQ))))=>
       bif (cm .lss z.1 (a0.2.2.1.length:Int)) then
        (Sw.idx a0.2.2.1 z.1).bind fun A=>
         lp (β:=(List (Option (Int×aQ)))) (fun (h:Int×(List (Option (Int×aQ))))=>
          bif (cm .lss h.1 (A.2.length:Int)) then
           bif (cm .gtr A.1 a2) then
            (Sw.idx A.2 h.1).bind fun C=>
             (Sw.idx A.2 h.1).bind fun F=>
              (Sw.idx h.2 C.1).bind fun _=>
               some (.next ((ar .add .i64 h.1 1),(List.set h.2 (Int.toNat C.1) (some F))))
           else
            some (.next ((ar .add .i64 h.1 1),h.2))
          else
           some (.done (.WN h.2))
          ) (0,z.2) fun (G:(List (Option (Int×aQ))))=>
         some (.next ((ar .add .i64 z.1 1),G))
       else
        some (.done (.WN z.2))
       ) (0,(List.replicate 32 (none:(Option (Int×aQ))))) fun (H:(List (Option (Int×aQ))))=>
      lp (β:=mN) (fun (u:Int×mN)=>
       bif (cm .lss u.1 32) then
        (Sw.idx H u.1).bind fun D=>
         bif (Option.isSome D) then
          (D).bind fun I=>
           (Sw.app u.2 ([I]:mN)).bind fun K=>
            some (.next ((ar .add .i64 u.1 1),K))
         else
          some (.next ((ar .add .i64 u.1 1),u.2))
       else
        some (.done (.WN u.2))
       ) (0,([]:mN)) fun (L:mN)=>
      some ((a0.1,L),true,(none:Option Int))
def qC(a0:eE):Option (eB):=
 bif (cm .gtr (a0.length:Int) 8) then
  some (some 2)
 else
  lp (β:=Unit) (fun (h:Int×(List (aQ×Bool)))=>
   bif (cm .lss h.1 (a0.length:Int)) then
    (Sw.idx a0 h.1).bind fun u=>
     bif ((fP h.2 u).getD false) then
      some (.done (.ret (some 3)))
     else
      (Hc h.2 u true).bind fun z=>
       some (.next ((ar .add .i64 h.1 1),z))
   else
    some (.done (.WN ()))
   ) (0,([]:List (aQ×Bool))) fun (_:Unit)=>
  some (none:Option Int)
def nY(a0 a1:eE):Option (eB):=
 (bif (cm .lss (a0.length:Int) 1) then
  some true
 else
  some (cm .gtr (a0.length:Int) 32)).bind fun h=>
  bif h then
   some (some 1)
  else
   (qC a1).bind fun u=>
    some u
def vV(a0:eE):Option ((Option (eE×(List (aQ×cZ))))×eB):=
 (bif (cm .lss (a0.length:Int) 1) then
  some true
 else
  some (cm .gtr (a0.length:Int) 32)).bind fun z=>
  bif z then
   some ((none:(Option (eE×(List (aQ×cZ))))),(some 1))
  else
   (aP a0).bind fun A=>
    lp (β:=(List (aQ×cZ))) (fun (h:Int×(List (aQ×cZ)))=>
     bif (cm .lss h.1 (a0.length:Int)) then
      (Sw.idx a0 h.1).bind fun B=>
       (Sf h.2 B).bind fun u=>
        (Sw.app u.2.2 ([h.1]:cZ)).bind fun C=>
         some (.next ((ar .add .i64 h.1 1),wE u.1 u.2.1 C))
     else
      some (.done (.WN h.2))
     ) (0,([]:List (aQ×cZ))) fun (D:(List (aQ×cZ)))=>
    some ((some (A,D)),(none:Option Int))
def vC(a0:Unit)(a1:(Int×aQ)):Option (Pb×Bool):=
 some ((a1.1,0,0,aS),(decide (a1.2=aS)))
def lW(a0:(Option (eE×(List (aQ×cZ)))))(a1:aQ):Option (Int×Bool):=
 (a0).bind fun h=>
  bif (cm .eql (((fP h.2 a1).getD ([]:cZ)).length:Int) 0) then
   some (0,false)
  else
   (Sw.idx ((fP h.2 a1).getD ([]:cZ)) 0).bind fun u=>
    some (u,true)
def nZ(a0:((Option (eE×(List (aQ×cZ))))))(a1:(Int×aQ)):Option (Pb×Bool):=
 (lW a0 a1.2).bind fun h=>
  some ((a1.1,1,h.1,aS),h.2)
def eK(a0:eE)(a1:aQ):Option (Int):=
 lp (β:=Unit) (fun (h:Int)=>
  bif (cm .lss h (a0.length:Int)) then
   (Sw.idx a0 h).bind fun u=>
    bif (decide (a1=u)) then
     some (.done (.ret h))
    else
     some (.next (ar .add .i64 h 1))
  else
   some (.done (.WN ()))
  ) 0 fun (_:Unit)=>
 some (-1:Int)
def uF(a0:eE)(a1:aQ):Option (Int×Bool):=
 (eK a0 a1).bind fun h=>
  some ((max h 0),(cm .geq h 0))
def lX(a0:(eE))(a1:(Int×aQ)):Option (Pb×Bool):=
 (uF a0 a1.2).bind fun h=>
  some ((a1.1,2,h.1,aS),h.2)
def sH(a0:Unit)(a1:(Int×aQ)):Option (Pb×Bool):=
 some ((a1.1,3,0,a1.2),true)
def jG(w:lS)(p0:(Int×aQ)):Option (Pb×Bool):=match w with
 | .inl z=>vC z p0
 | .inr (.inl z)=>nZ z p0
 | .inr (.inr (.inl z))=>lX z p0
 | .inr (.inr (.inr (.inl z)))=>sH z p0
 | .inr (.inr (.inr (.inr _)))=>none
def qZ(a0:mN)(a1 a2:eE):Option (xL×eB):=
 (nY a1 a2).bind fun D=>
  bif (Option.isSome D) then
   some (([]:xL),D)
  else
   lp (β:=Unit) (fun (u:Int×Int)=>
    bif (cm .lss u.2 (a0.length:Int)) then
     (Sw.idx a0 u.2).bind fun A=>
      (bif (cm .leq A.1 u.1) then
       some true
      else
       some (cm .geq A.1 (a1.length:Int))).bind fun G=>
       bif G then
        some (.done (.ret (([]:xL),(some 1))))
       else
        some (.next (A.1,(ar .add .i64 u.2 1)))
    else
     some (.done (.WN ()))
    ) ((-1:Int),0) fun (_:Unit)=>
   (vV a1).bind fun z=>
    bif (Option.isSome z.2) then
     some (([]:xL),z.2)
    else
     lp (β:=xL) (fun (h:Int×xL)=>
      bif (cm .lss h.1 (a0.length:Int)) then
       jp (fun (H:xL)=>
        some (.next ((ar .add .i64 h.1 1),H))
        ) fun E=>
       (Sw.idx a0 h.1).bind fun B=>
        (Sw.idx a1 B.1).bind fun I=>
         bif (decide (I=B.2)) then
          E h.2
         else
          lp (β:=xL) (fun (C:Int)=>
           bif (cm .lss C (([(.inl ():lS),(.inr (.inl z.1):lS),(.inr (.inr (.inl a2)):lS),(.inr (.inr (.inr (.inl ()))):lS)]:(List lS)).length:Int)) then
            (Sw.idx ([(.inl ():lS),(.inr (.inl z.1):lS),(.inr (.inr (.inl a2)):lS),(.inr (.inr (.inr (.inl ()))):lS)]:(List lS)) C).bind fun K=>
             (jG K B).bind fun F=>
              bif F.2 then
               (Sw.app h.2 ([F.1]:xL)).bind fun L=>
                some (.done (.WN L))
              else
               some (.next (ar .add .i64 C 1))
           else
            some (.done (.WN h.2))
           ) 0 fun (M:xL)=>
          E M
      else
       some (.done (.WN h.2))
      ) (0,([]:xL)) fun (N:xL)=>
     some (N,(none:Option Int))
def rA(a0:(Int×mN))(a1:eE)(a2:Int):Option ((Int×cZ×eE)×Bool):=
 (qZ a0.2 a1 ([]:eE)).bind fun z=>
  bif (Option.isSome z.2) then
   some ((0,([]:cZ),([]:eE)),false)
  else
   lp (β:=cZ×eE) (fun (h:Int×cZ×eE)=>
    bif (cm .lss h.1 (z.1.length:Int)) then
     (Sw.idx z.1 h.1).bind fun u=>
      (Sw.app h.2.1 ([(ar .or .i64 (ar .or .i64 (sh .shl .i64 u.1 8) (sh .shl .i64 u.2.1 6)) u.2.2.1)]:cZ)).bind fun B=>
       bif (cm .eql u.2.1 3) then
        (Sw.app h.2.2 ([u.2.2.2]:eE)).bind fun C=>
         some (.next ((ar .add .i64 h.1 1),B,C))
       else
        some (.next ((ar .add .i64 h.1 1),B,h.2.2))
    else
     some (.done (.WN (h.2.1,h.2.2)))
    ) (0,([a2,a0.1]:cZ),([]:eE)) fun (A:cZ×eE)=>
   some ((4,A.1,A.2),(cm .leq (A.1.length:Int) 9))
def dR(b0 b1 b2 b3:Int)(b4:eE)(b5:pB)(b6:sC)(b7:Int)(b8:pI)(b9 WZ:Int)(WY:cZ)(XF WU XC WX:Int)(XB:qP)(WS:mH)(XM:Int)(XL:dN)(XJ:Int)(XI:dN):Option ((Int×cZ×eE)):=
 (nF b5 b1 b9).bind fun h=>
  (bif (Option.isNone h.2.2) then
   some h.2.1
  else
   some false).bind fun A=>
   jp (fun (_:Unit)=>
    some (5,([b2]:cZ),((fP b6 b2).getD ([]:eE)))
    ) fun u=>
   bif A then
    bif (fP b6 b9).isSome then
     (rA h.1 ((fP b6 b9).getD ([]:eE)) b9).bind fun z=>
      bif z.2 then
       some z.1
      else
       u ()
    else
     u ()
   else
    u ()
def pS(a0:Int):Option (Bool):=
 (bif (cm .lss a0 0) then
  some true
 else
  some (cm .gtr a0 2147483647)).bind fun h=>
  some h
def eH(a0:cZ):Option (Int):=
 lp (β:=Unit) (fun (h:Int)=>
  bif (cm .lss h (a0.length:Int)) then
   (Sw.idx a0 h).bind fun u=>
    (pS u).bind fun z=>
     bif z then
      some (.done (.ret h))
     else
      some (.next (ar .add .i64 h 1))
  else
   some (.done (.WN ()))
  ) 0 fun (_:Unit)=>
 some (-1:Int)
def cX(a0:cZ):Option (Bool):=
 (eH a0).bind fun h=>
  some (cm .geq h 0)
def qD(a0:cZ):Option (Bool):=
 (cX a0).bind fun h=>
  some (!h)
def tQ(a0:(Int×cZ×eE)):Option (eB):=
 (qB a0).bind fun h=>
  bif (Option.isSome h) then
   some h
  else
   bif (cm .gtr (a0.2.1.length:Int) 9) then
    some (some 2)
   else
    some (none:Option Int)
def pJ(a0:pI):Option (eB):=
 (qD ([a0.1,a0.2.1]:cZ)).bind fun z=>
  bif (!z) then
   some (some 1)
  else
   bif (cm .gtr (a0.2.2.length:Int) 64) then
    some (some 2)
   else
    lp (β:=Unit) (fun (h:Int)=>
     bif (cm .lss h (a0.2.2.length:Int)) then
      (Sw.idx a0.2.2 h).bind fun A=>
       (tQ A).bind fun u=>
        bif (Option.isSome u) then
         some (.done (.ret u))
        else
         some (.next (ar .add .i64 h 1))
     else
      some (.done (.WN ()))
     ) 0 fun (_:Unit)=>
    some (none:Option Int)
def rB(a0:(Bool×cZ)):Option (cZ):=
 bif a0.1 then
  some ([]:cZ)
 else
  (Sw.app ([]:cZ) a0.2).bind fun h=>
   some h
def lI(a0:cZ):Option cZ:=Sw.app [] a0
def mV(a0:(Int×cZ×eE)):Option ((Int×cZ×eE)):=
 (lI a0.2.1).bind fun h=>
  (aP a0.2.2).bind fun u=>
   some (a0.1,h,u)
def rU(a0:wS):Option (wS):=
 lp (β:=wS) (fun (h:Int×wS)=>
  bif (cm .lss h.1 (a0.length:Int)) then
   (Sw.idx a0 h.1).bind fun u=>
    (mV u).bind fun z=>
     (Sw.app h.2 ([z]:wS)).bind fun A=>
      some (.next ((ar .add .i64 h.1 1),A))
  else
   some (.done (.WN h.2))
  ) (0,([]:wS)) fun (B:wS)=>
 some B
def uG(a0:pI)(a1:(Int×cZ×eE)):Option (pI×eB):=
 (pJ a0).bind fun h=>
  bif (Option.isSome h) then
   some ((0,0,([]:wS)),h)
  else
   (tQ a1).bind fun u=>
    bif (Option.isSome u) then
     some ((0,0,([]:wS)),u)
    else
     (bif (cm .eql (a0.2.2.length:Int) 64) then
      some true
     else
      some (cm .geq (ar .add .i64 a0.2.1 (a0.2.2.length:Int)) 2147483647)).bind fun z=>
      bif z then
       some ((0,0,([]:wS)),(some 2))
      else
       (rU a0.2.2).bind fun A=>
        (mV a1).bind fun B=>
         (Sw.app A ([B]:wS)).bind fun C=>
          some ((a0.1,a0.2.1,C),(none:Option Int))
def pE(a0:pI):Option ((List cZ)×eB):=
 (pJ a0).bind fun A=>
  bif (Option.isSome A) then
   some (([]:(List cZ)),A)
  else
   (Sw.sub a0.2.2 0 (min (a0.2.2.length:Int) 4)).bind fun B=>
    lp (β:=(List cZ)) (fun (h:Int×(List cZ))=>
     bif (cm .lss h.1 (B.length:Int)) then
      (Sw.idx B h.1).bind fun u=>
       bif (cm .gtr (ar .add .i64 a0.2.1 h.1) 2147483647) then
        some (.done (.ret (([]:(List cZ)),(some 1))))
       else
        (Sw.app ([a0.1,(ar .add .i64 a0.2.1 h.1),u.1]:cZ) u.2.1).bind fun C=>
         (mU (1,C,u.2.2)).bind fun z=>
          bif (Option.isSome z.2) then
           some (.done (.ret (([]:(List cZ)),z.2)))
          else
           (Sw.app h.2 ([z.1]:(List cZ))).bind fun D=>
            some (.next ((ar .add .i64 h.1 1),D))
     else
      some (.done (.WN h.2))
     ) (0,([]:(List cZ))) fun (E:(List cZ))=>
    some (E,(none:Option Int))
def dC(b0 b1 b2 b3:Int)(b4:eE)(b5:pB)(b6:sC)(b7:Int)(b8:pI)(b9 WZ:Int)(WY:cZ)(XF WU XC WX:Int)(XB:qP)(WS:mH)(XM:Int)(XL:dN)(XJ:Int)(XI:dN):Option (eB×pI×Int×cZ×mH):=
 (iW true (2,([b3]:cZ),([]:eE)) b0 b1 b2 b3 b4 b5 b6 b7 b8 b9 WZ WY XF WU XC WX XB WS XM XL XJ XI).bind fun u=>
  (bif (Option.isSome u.1) then
   some true
  else
   some (cm .lss b7 0)).bind fun E=>
   bif E then
    some (u.1,b8,b9,WY,u.2)
   else
    (bif (cm .lss b9 b2) then
     some (cm .eql (b8.2.2.length:Int) 0)
    else
     some false).bind fun F=>
     jp (fun (h:pI×Int×cZ)=>
      (pE h.1).bind fun A=>
       lp (β:=mH) (fun (z:Int×mH)=>
        bif (cm .lss z.1 (A.1.length:Int)) then
         (Sw.idx A.1 z.1).bind fun C=>
          (HJ C).bind fun _=>
           (eN true (false,C) b0 b1 b2 b3 b4 b5 b6 b7 h.1 h.2.1 WZ h.2.2 XF WU XC WX XB z.2 XM XL XJ XI).bind fun G=>
            some (.next ((ar .add .i64 z.1 1),G))
        else
         some (.done (.WN z.2))
        ) (0,u.2) fun (H:mH)=>
       some (A.2,h.1,h.2.1,h.2.2,H)
      ) fun D=>
     bif F then
      (dR b0 b1 b2 b3 b4 b5 b6 b7 b8 b9 WZ WY XF WU XC WX XB u.2 XM XL XJ XI).bind fun I=>
       (uG b8 I).bind fun B=>
        bif (Option.isSome B.2) then
         some (B.2,b8,b9,WY,u.2)
        else
         (Sw.app WY ([b2]:cZ)).bind fun K=>
          D (B.1,b2,K)
     else
      D (b8,b9,WY)
def nR(a1:Pb)(b0 b1 b2 b3:Int)(b4:eE)(b5:pB)(b6:sC)(b7:Int)(b8:pI)(b9 WZ:Int)(WY:cZ)(XF WU XC WX:Int)(XB:qP)(WS:mH)(XM:Int)(XL:dN)(XJ:Int)(XI:dN):Option (aQ×eB×Int×Int×Int×Int×eE×pB×sC×Int×pI×Int×Int×cZ×Int×Int×Int×Int×qP×mH×Int×dN×Int×dN):=
 (dC b0 b1 b2 b3 b4 b5 b6 b7 b8 b9 WZ WY XF WU XC WX XB WS XM XL XJ XI).bind fun h=>
  some (aS,h.1,b0,b1,b2,b3,b4,b5,b6,b7,h.2.1,h.2.2.1,WZ,h.2.2.2.1,XF,WU,XC,WX,XB,h.2.2.2.2,XM,XL,XJ,XI)
def cB(a1 b0 b1 b2 b3:Int)(b4:eE)(b5:pB)(b6:sC)(b7:Int)(b8:pI)(b9 WZ:Int)(WY:cZ)(XF WU XC WX:Int)(XB:qP)(WS:mH)(XM:Int)(XL:dN)(XJ:Int)(XI:dN):Option (Int×Bool):=
 bif (cm .eql (WS.length:Int) 0) then
  some (0,false)
 else
  (nz (WS.length:Int)).bind fun _=>
   some ((ar .rem .i64 (max a1 (IntKind.wrap .i64 (0 - (ar .add .i64 a1 1)))) (WS.length:Int)),true)
def hX(a0:(Bool×mH)):Option (mH):=
 bif a0.1 then
  some ([]:mH)
 else
  (Sw.app ([]:mH) a0.2).bind fun h=>
   some h
def cY(a0:mH):Option mH:=Sw.app [] a0
def cC(a0:mH)(a1 a2:Int):Option mH:=Sw.del a0 a1 a2
def fC(VY:cZ):Option (Int×Bool×cZ):=
 bif (cm .eql (VY.length:Int) 0) then
  some (0,false,VY)
 else
  (Sw.idx VY 0).bind fun h=>
   (Sw.sub VY 1 (VY.length:Int)).bind fun u=>
    some (h,true,u)
def gI(VY:cZ):Option (Int×Bool×cZ):=
 lp (β:=cZ) (fun (h:Int×Int×cZ)=>
  bif (cm .lss h.2.1 35) then
   (fC h.2.2).bind fun u=>
    bif (!u.2.1) then
     some (.done (.ret (0,false,u.2.2)))
    else
     (nn h.2.1).bind fun _=>
      bif (cm .lss u.1 128) then
       (bif (cm .leq (ar .or .i64 h.1 (sh .shl .i64 (ar .and .u8 u.1 127) h.2.1)) 2147483647) then
        bif (cm .gtr u.1 0) then
         some true
        else
         some (cm .eql h.2.1 0)
       else
        some false).bind fun z=>
        some (.done (.ret ((ar .or .i64 h.1 (sh .shl .i64 (ar .and .u8 u.1 127) h.2.1)),z,u.2.2)))
      else
       some (.next ((ar .or .i64 h.1 (sh .shl .i64 (ar .and .u8 u.1 127) h.2.1)),(ar .add .i64 h.2.1 7),u.2.2))
  else
   some (.done (.WN h.2.2))
  ) (0,0,VY) fun (A:cZ)=>
 some (0,false,A)
def kB(a0:cZ)(a1:Int):Option ((cZ×Int)):=
 jp (fun (_:Unit)=>
  some (a0,a1)
  ) fun h=>
 bif (cm .lss a1 1) then
  none
 else
  h ()
def fF(a0:cZ):Option ((Int×cZ×eE)×eB):=
 bif (cm .lss (a0.length:Int) 6) then
  some ((0,([]:cZ),([]:eE)),(some 3))
 else
  (Sw.sub a0 0 (ar .sub .i64 (a0.length:Int) 4)).bind fun C=>
   (tP C).bind fun u=>
    (Sw.sub a0 (C.length:Int) (a0.length:Int)).bind fun G=>
     (Sw.u1 4 G).bind fun H=>
      bif (!decide (H=([(IntKind.wrap .u8 (sh .shr .u32 u 24)),(IntKind.wrap .u8 (sh .shr .u32 u 16)),(IntKind.wrap .u8 (sh .shr .u32 u 8)),(IntKind.wrap .u8 u)]:cZ))) then
       some ((0,([]:cZ),([]:eE)),(some 3))
      else
       (fC C).bind fun D=>
        (fC D.2.2).bind fun E=>
         lp (β:=cZ×cZ) (fun (h:Int×cZ×cZ)=>
          bif (cm .lss h.1 (ar .and .u8 D.1 15)) then
           (gI h.2.1).bind fun F=>
            bif (!F.2.1) then
             some (.done (.ret ((0,([]:cZ),([]:eE)),(some 3))))
            else
             (Sw.app h.2.2 ([F.1]:cZ)).bind fun I=>
              some (.next ((ar .add .u8 h.1 1),F.2.2,I))
          else
           some (.done (.WN (h.2.1,h.2.2)))
          ) (0,E.2.2,([]:cZ)) fun (A:cZ×cZ)=>
         (bif (cm .gtr E.1 32) then
          some true
         else
          bif (cm .gtr (A.2.length:Int) 12) then
           some true
          else
           some (cm .neq (A.1.length:Int) (ar .mul .i64 E.1 8))).bind fun K=>
          bif K then
           some ((0,([]:cZ),([]:eE)),(some 3))
          else
           (kB A.1 8).bind fun B=>
            (Sw.small B.1).bind fun _=>
             (Sw.pc B.2).bind fun _=>
              rg (δ:=Empty) (fun (L:cZ) (M:eE)=>
               (Sw.u1 8 L).bind fun N=>
                (Sw.app M ([N]:eE)).bind fun O=>
                 some (.next O)
               ) (Sw.chunks (Int.toNat B.2) B.1) ([]:eE) (fun (P:eE)=>
               some (((sh .shr .u8 D.1 4),A.2,P),(none:Option Int))
               ) fun (z:Empty)=>z.elim
def qE(a0:cZ):Option (Int):=
 lp (β:=Int) (fun (h:Int×Int)=>
  bif (cm .lss h.2 (a0.length:Int)) then
   (Sw.idx a0 h.2).bind fun u=>
    some (.next ((ar .mul .u64 (ar .xor .u64 h.1 u) 1099511628211),(ar .add .i64 h.2 1)))
  else
   some (.done (.WN h.1))
  ) (14695981039346656037,0) fun (z:Int)=>
 some z
def vW(a0:aQ):Option (Int):=
 (Sw.app ([0]:cZ) a0).bind fun h=>
  (qE h).bind fun u=>
   some u
def iP(a0:cZ)(a1:Int):Option ((cZ×Int)):=
 jp (fun (_:Unit)=>
  some (a0,a1)
  ) fun h=>
 bif (cm .lss a1 1) then
  none
 else
  h ()
def tT(a0:cZ):Option (Int):=
 lp (β:=cZ) (fun (u:Int×cZ)=>
  bif (cm .lss u.1 (a0.length:Int)) then
   (Sw.idx a0 u.1).bind fun z=>
    lp (β:=cZ) (fun (h:Int×cZ)=>
     bif (cm .geq h.1 0) then
      (nn h.1).bind fun _=>
       (Sw.app h.2 ([(IntKind.wrap .u8 (sh .shr .u64 z h.1))]:cZ)).bind fun A=>
        some (.next ((ar .sub .i64 h.1 8),A))
     else
      some (.done (.WN h.2))
     ) (56,u.2) fun (B:cZ)=>
    some (.next ((ar .add .i64 u.1 1),B))
  else
   some (.done (.WN u.2))
  ) (0,([1]:cZ)) fun (C:cZ)=>
 (qE C).bind fun D=>
  some D
def rV(a0:cZ):Option (cZ):=
 (iP a0 4).bind fun h=>
  (Sw.small h.1).bind fun _=>
   (Sw.pc h.2).bind fun _=>
    rg (δ:=Empty) (fun (u A:cZ)=>
     (tT u).bind fun B=>
      (Sw.app A ([B]:cZ)).bind fun C=>
       some (.next C)
     ) (Sw.chunks (Int.toNat h.2) h.1) ([]:cZ) (fun (D:cZ)=>
     some D
     ) fun (z:Empty)=>z.elim
def zV(a0:eE):Option (((List cZ))×eB):=
 (bif (cm .lss (a0.length:Int) 1) then
  some true
 else
  some (cm .gtr (a0.length:Int) 32)).bind fun B=>
  bif B then
   some (([]:(List cZ)),(some 1))
  else
   lp (β:=cZ) (fun (h:Int×cZ)=>
    bif (cm .lss h.1 (a0.length:Int)) then
     (Sw.idx a0 h.1).bind fun C=>
      (vW C).bind fun D=>
       (Sw.app h.2 ([D]:cZ)).bind fun E=>
        some (.next ((ar .add .i64 h.1 1),E))
    else
     some (.done (.WN h.2))
    ) (0,([]:cZ)) fun (z:cZ)=>
   lp (β:=(List cZ)) (fun (u:cZ×(List cZ))=>
    bif (cm .gtr (u.1.length:Int) 1) then
     (rV u.1).bind fun A=>
      (Sw.app u.2 ([A]:(List cZ))).bind fun F=>
       some (.next (A,F))
    else
     some (.done (.WN u.2))
    ) (z,([z]:(List cZ))) fun (G:(List cZ))=>
   some (G,(none:Option Int))
def pU(a0:Int):Option (cZ):=
 some ([(IntKind.wrap .i64 (sh .shr .u64 a0 33)),(IntKind.wrap .i64 (ar .and .u64 (sh .shr .u64 a0 2) 2147483647))]:cZ)
def kC(a0:eE):Option (cZ):=
 (zV a0).bind fun h=>
  bif (Option.isSome h.2) then
   some ([]:cZ)
  else
   (Sw.idx h.1 (ar .sub .i64 (h.1.length:Int) 1)).bind fun u=>
    (Sw.idx u 0).bind fun z=>
     (pU z).bind fun A=>
      some A
def oA(a0:qP)(a1:cZ):Option (qP×(Int×cZ×eE)×Bool×(Bool×cZ)×eB):=
 (qD ([a0.1,a0.2]:cZ)).bind fun B=>
  bif (!B) then
   some ((0,0),(0,([]:cZ),([]:eE)),false,(true,([]:cZ)),(some 1))
  else
   (fF a1).bind fun h=>
    (bif (Option.isSome h.2) then
     some true
    else
     bif (cm .neq h.1.1 1) then
      some true
     else
      bif (cm .lss (h.1.2.1.length:Int) 3) then
       some true
      else
       (Sw.idx h.1.2.1 0).bind fun C=>
        bif (cm .neq C a0.1) then
         some true
        else
         (Sw.idx h.1.2.1 2).bind fun D=>
          some (cm .gtr D 15)).bind fun E=>
     bif E then
      some (a0,(0,([]:cZ),([]:eE)),false,(true,([]:cZ)),(none:Option Int))
     else
      ((Sw.idx h.1.2.1 1).bind fun F=>
       bif (cm .eql F a0.2) then
        some (cm .lss a0.2 2147483647)
       else
        some false).bind fun G=>
       jp (fun (u:Bool×Int×Int×cZ×eE)=>
        (mU (0,([a0.1,u.2.1]:cZ),([]:eE))).bind fun z=>
         (HJ z.1).bind fun _=>
          some ((a0.1,u.2.1),u.2.2,u.1,(false,z.1),z.2)
        ) fun A=>
       bif G then
        (Sw.idx h.1.2.1 2).bind fun H=>
         (Sw.sub h.1.2.1 3 (h.1.2.1.length:Int)).bind fun I=>
          A (true,(ar .add .i64 a0.2 1),H,I,h.1.2.2)
       else
        A (false,a0.2,0,([]:cZ),([]:eE))
def gV(a1:mN)(a2 b0 b1 b2 b3:Int)(b4:eE)(b5:pB)(b6:sC)(b7:Int)(b8:pI)(b9 WZ:Int)(WY:cZ)(XF WU XC WX:Int)(XB:qP)(WS:mH)(XM:Int)(XL:dN)(XJ:Int)(XI:dN):Option (eB×Int×Int×dN):=
 (cV XJ XI a1 a2 XC).bind fun h=>
  bif (Option.isSome h.1) then
   some (h.1,WU,h.2.1,h.2.2)
  else
   some ((none:Option Int),a2,h.2.1,h.2.2)
def oB(a0:(Int×cZ×eE)):Option (xL×Bool):=
 (Sw.sub a0.2.1 2 (a0.2.1.length:Int)).bind fun z=>
  lp (β:=eE×xL) (fun (h:eE×Int×xL)=>
   bif (cm .lss h.2.1 (z.length:Int)) then
    (Sw.idx z h.2.1).bind fun u=>
     jp (fun (A:eE×aQ)=>
      (Sw.app h.2.2 ([((sh .shr .i64 u 8),(ar .and .i64 (sh .shr .i64 u 6) 3),(ar .and .i64 u 63),A.2)]:xL)).bind fun D=>
       some (.next (A.1,(ar .add .i64 h.2.1 1),D))
      ) fun B=>
     bif (cm .eql (ar .and .i64 (sh .shr .i64 u 6) 3) 3) then
      bif (cm .eql (h.1.length:Int) 0) then
       some (.done (.ret (([]:xL),false)))
      else
       (Sw.idx h.1 0).bind fun E=>
        (Sw.sub h.1 1 (h.1.length:Int)).bind fun F=>
         B (F,E)
     else
      B (h.1,aS)
   else
    some (.done (.WN (h.1,h.2.2)))
   ) (a0.2.2,0,([]:xL)) fun (C:eE×xL)=>
  some (C.2,(cm .eql (C.1.length:Int) 0))
def tG(a0:eE)(a1:Int):Option (aQ×Bool):=
 (bif (cm .lss a1 0) then
  some true
 else
  some (cm .geq a1 (a0.length:Int))).bind fun h=>
  bif h then
   some (aS,false)
  else
   (Sw.idx a0 a1).bind fun u=>
    some (u,true)
def pK(a0:xL)(a1 a2:eE):Option (mN×cZ×eB):=
 (nY a1 a2).bind fun B=>
  bif (Option.isSome B) then
   some (([]:mN),([]:cZ),B)
  else
   lp (β:=Unit) (fun (A:Int×Int)=>
    bif (cm .lss A.2 (a0.length:Int)) then
     (Sw.idx a0 A.2).bind fun z=>
      (bif (cm .leq z.1 A.1) then
       some true
      else
       bif (cm .geq z.1 (a1.length:Int)) then
        some true
       else
        bif (cm .lss z.2.1 0) then
         some true
        else
         some (cm .gtr z.2.1 3)).bind fun F=>
       bif F then
        some (.done (.ret (([]:mN),([]:cZ),(some 1))))
       else
        some (.next (z.1,(ar .add .i64 A.2 1)))
    else
     some (.done (.WN ()))
    ) ((-1:Int),0) fun (_:Unit)=>
   lp (β:=mN×cZ) (fun (h:Int×mN×cZ)=>
    bif (cm .lss h.1 (a0.length:Int)) then
     (Sw.idx a0 h.1).bind fun u=>
      bif (cm .eql u.2.1 1) then
       (tG a1 u.2.2.1).bind fun C=>
        bif C.2 then
         (Sw.app h.2.1 ([(u.1,C.1)]:mN)).bind fun G=>
          some (.next ((ar .add .i64 h.1 1),G,h.2.2))
        else
         (Sw.app h.2.2 ([u.1]:cZ)).bind fun H=>
          some (.next ((ar .add .i64 h.1 1),h.2.1,H))
      else
       bif (cm .eql u.2.1 2) then
        (tG a2 u.2.2.1).bind fun D=>
         bif D.2 then
          (Sw.app h.2.1 ([(u.1,D.1)]:mN)).bind fun I=>
           some (.next ((ar .add .i64 h.1 1),I,h.2.2))
         else
          (Sw.app h.2.2 ([u.1]:cZ)).bind fun K=>
           some (.next ((ar .add .i64 h.1 1),h.2.1,K))
       else
        bif (cm .eql u.2.1 3) then
         (Sw.app h.2.1 ([(u.1,u.2.2.2)]:mN)).bind fun L=>
          some (.next ((ar .add .i64 h.1 1),L,h.2.2))
        else
         (Sw.app h.2.1 ([(u.1,aS)]:mN)).bind fun M=>
          some (.next ((ar .add .i64 h.1 1),M,h.2.2))
    else
     some (.done (.WN (h.2.1,h.2.2)))
    ) (0,([]:mN),([]:cZ)) fun (E:mN×cZ)=>
   some (E.1,E.2,(none:Option Int))
def fG(a1:(Int×cZ×eE))(b0 b1 b2 b3:Int)(b4:eE)(b5:pB)(b6:sC)(b7:Int)(b8:pI)(b9 WZ:Int)(WY:cZ)(XF WU XC WX:Int)(XB:qP)(WS:mH)(XM:Int)(XL:dN)(XJ:Int)(XI:dN):Option (eB×Int×Int×dN):=
 (bif (cm .eql a1.1 5) then
  bif (cm .eql (a1.2.1.length:Int) 1) then
   bif (cm .eql (a1.2.2.length:Int) XF) then
    (Sw.idx a1.2.1 0).bind fun D=>
     some (cm .gtr D WU)
   else
    some false
  else
   some false
 else
  some false).bind fun E=>
  bif E then
   lp (β:=mN) (fun (h:Int×mN)=>
    bif (cm .lss h.1 (a1.2.2.length:Int)) then
     (Sw.idx a1.2.2 h.1).bind fun F=>
      (Sw.app h.2 ([(h.1,F)]:mN)).bind fun G=>
       some (.next ((ar .add .i64 h.1 1),G))
    else
     some (.done (.WN h.2))
    ) (0,([]:mN)) fun (H:mN)=>
   (Sw.idx a1.2.1 0).bind fun I=>
    (gV H I b0 b1 b2 b3 b4 b5 b6 b7 b8 b9 WZ WY XF WU XC WX XB WS XM XL XJ XI).bind fun u=>
     some (u.1,u.2.1,u.2.2.1,u.2.2.2)
  else
   (bif (cm .eql a1.1 4) then
    bif (cm .geq (a1.2.1.length:Int) 2) then
     (Sw.idx a1.2.1 0).bind fun K=>
      bif (cm .eql K WU) then
       (Sw.idx a1.2.1 1).bind fun L=>
        some (cm .gtr L WU)
      else
       some false
    else
     some false
   else
    some false).bind fun M=>
    bif M then
     (gD (XJ,XI)).bind fun A=>
      bif (Option.isSome A.2) then
       some (A.2,WU,XJ,XI)
      else
       (oB a1).bind fun C=>
        (pK C.1 A.1 ([]:eE)).bind fun B=>
         (bif (!C.2) then
          some true
         else
          bif (Option.isSome B.2.2) then
           some true
          else
           some (cm .gtr (B.2.1.length:Int) 0)).bind fun N=>
          bif N then
           some ((none:Option Int),WU,XJ,XI)
          else
           (Sw.idx a1.2.1 1).bind fun O=>
            (gV B.1 O b0 b1 b2 b3 b4 b5 b6 b7 b8 b9 WZ WY XF WU XC WX XB WS XM XL XJ XI).bind fun z=>
             some (z.1,z.2.1,z.2.2.1,z.2.2.2)
    else
     some ((none:Option Int),WU,XJ,XI)
def cD(a1:cZ)(b0 b1 b2 b3:Int)(b4:eE)(b5:pB)(b6:sC)(b7:Int)(b8:pI)(b9 WZ:Int)(WY:cZ)(XF WU XC WX:Int)(XB:qP)(WS:mH)(XM:Int)(XL:dN)(XJ:Int)(XI:dN):Option (eB×Int×Int×qP×mH×Int×dN):=
 (fF a1).bind fun A=>
  (bif (Option.isNone A.2) then
   bif (cm .eql A.1.1 2) then
    some (cm .eql (A.1.2.1.length:Int) 1)
   else
    some false
  else
   some false).bind fun G=>
   bif G then
    (Sw.idx A.1.2.1 0).bind fun H=>
     jp (fun (u:Int×qP)=>
      (gD (XJ,XI)).bind fun C=>
       (bif (Option.isSome C.2) then
        some true
       else
        (Sw.idx A.1.2.1 0).bind fun I=>
         some (cm .lss I u.1)).bind fun K=>
        bif K then
         some (C.2,WU,u.1,u.2,WS,XJ,XI)
        else
         (kC C.1).bind fun L=>
          (Sw.app ([u.1,XC,WU]:cZ) L).bind fun M=>
           (iW false (3,M,([]:eE)) b0 b1 b2 b3 b4 b5 b6 b7 b8 b9 WZ WY XF WU XC u.1 u.2 WS XM XL XJ XI).bind fun D=>
            some (D.1,WU,u.1,u.2,D.2,XJ,XI)
      ) fun E=>
     bif (cm .gtr H WX) then
      (Sw.idx A.1.2.1 0).bind fun N=>
       (Sw.idx A.1.2.1 0).bind fun O=>
        E (N,((ar .or .i64 (sh .shl .i64 O 12) XC),0))
     else
      E (WX,XB)
   else
    bif (cm .lss WX 0) then
     some ((none:Option Int),WU,WX,XB,WS,XJ,XI)
    else
     (oA XB a1).bind fun h=>
      bif (Option.isSome h.2.2.2.2) then
       some (h.2.2.2.2,WU,WX,XB,WS,XJ,XI)
      else
       jp (fun (B:Int×Int×dN)=>
        (eN false h.2.2.2.1 b0 b1 b2 b3 b4 b5 b6 b7 b8 b9 WZ WY XF B.1 XC WX h.1 WS XM XL B.2.1 B.2.2).bind fun P=>
         some ((none:Option Int),B.1,WX,h.1,P,B.2.1,B.2.2)
        ) fun F=>
       bif h.2.2.1 then
        (fG h.2.1 b0 b1 b2 b3 b4 b5 b6 b7 b8 b9 WZ WY XF WU XC WX h.1 WS XM XL XJ XI).bind fun z=>
         bif (Option.isSome z.1) then
          some (z.1,z.2.1,WX,h.1,WS,z.2.2.1,z.2.2.2)
         else
          F (z.2.1,z.2.2.1,z.2.2.2)
       else
        F (WU,XJ,XI)
def jH(a0 a1:cZ):Option (Bool):=
 bif (cm .neq (a0.length:Int) (a1.length:Int)) then
  some false
 else
  lp (β:=Unit) (fun (h:Int)=>
   bif (cm .lss h (a0.length:Int)) then
    (Sw.idx a0 h).bind fun u=>
     (Sw.idx a1 h).bind fun z=>
      bif (cm .neq u z) then
       some (.done (.ret false))
      else
       some (.next (ar .add .i64 h 1))
   else
    some (.done (.WN ()))
   ) 0 fun (_:Unit)=>
  some true
def rW(a0:pI)(a1:cZ):Option (pI×eB):=
 (pJ a0).bind fun A=>
  bif (Option.isSome A) then
   some ((0,0,([]:wS)),A)
  else
   (rU a0.2.2).bind fun u=>
    (fF a1).bind fun h=>
     (bif (Option.isSome h.2) then
      some true
     else
      bif (cm .neq h.1.1 0) then
       some true
      else
       bif (cm .neq (h.1.2.1.length:Int) 2) then
        some true
       else
        bif (cm .gtr (h.1.2.2.length:Int) 0) then
         some true
        else
         (Sw.idx h.1.2.1 0).bind fun D=>
          some (cm .neq D a0.1)).bind fun E=>
      bif E then
       some ((a0.1,a0.2.1,u),(none:Option Int))
      else
       (Sw.idx h.1.2.1 1).bind fun z=>
        (bif (cm .gtr (ar .sub .i64 z a0.2.1) 0) then
         some (cm .leq (ar .sub .i64 z a0.2.1) (min (u.length:Int) 4))
        else
         some false).bind fun F=>
         jp (fun (B:Int×wS)=>
          some ((a0.1,B.1,B.2),(none:Option Int))
          ) fun C=>
         bif F then
          (Sw.idx h.1.2.1 1).bind fun G=>
           (Sw.sub u (ar .sub .i64 z a0.2.1) (u.length:Int)).bind fun H=>
            C (G,H)
         else
          C (a0.2.1,u)
def oC(a0:(Int×mN))(a1:Int):Option (Bool):=
 some (cm .leq a0.1 a1)
def cA(a0:sG)(XN:Int):Option (Int):=
 lp (β:=Unit) (fun (h:Int)=>
  bif (cm .lss h (a0.length:Int)) then
   (Sw.idx a0 h).bind fun u=>
    (oC u XN).bind fun z=>
     bif z then
      some (.done (.ret h))
     else
      some (.next (ar .add .i64 h 1))
  else
   some (.done (.WN ()))
  ) 0 fun (_:Unit)=>
 some (-1:Int)
def bW(a0:sG)(XN:Int):Option (sG):=
 (cA a0 XN).bind fun z=>
  bif (cm .eql z (-1:Int)) then
   some a0
  else
   lp (β:=Int×sG) (fun (h:Int×Int×sG)=>
    bif (cm .lss h.2.1 (h.2.2.length:Int)) then
     (Sw.idx h.2.2 h.2.1).bind fun A=>
      (oC A XN).bind fun B=>
       bif (!B) then
        (Sw.idx h.2.2 h.1).bind fun _=>
         some (.next ((ar .add .i64 h.1 1),(ar .add .i64 h.2.1 1),(List.set h.2.2 (Int.toNat h.1) A)))
       else
        some (.next (h.1,(ar .add .i64 h.2.1 1),h.2.2))
    else
     some (.done (.WN (h.1,h.2.2)))
    ) (z,(ar .add .i64 z 1),a0) fun (u:Int×sG)=>
   (Sw.sub u.2 u.1 (u.2.length:Int)).bind fun _=>
    (Sw.sub (List.take (Int.toNat u.1) u.2++List.replicate (u.2.length - Int.toNat u.1) (0,([]:mN))) 0 u.1).bind fun C=>
     some C
def pL(a0:pB)(a1 a2:Int):Option (pB×eB):=
 (lL a0 a1).bind fun u=>
  bif (Option.isSome u) then
   some ((0,([]:mN),([]:sG),false),u)
  else
   (bif (cm .lss a2 0) then
    some true
   else
    some (cm .gtr a2 a0.1)).bind fun A=>
    bif A then
     some ((0,([]:mN),([]:sG),false),(some 1))
    else
     (nE a0).bind fun h=>
      (bW h.2.2.1 a2).bind fun B=>
       jp (fun (C:Bool)=>
        some ((h.1,h.2.1,B,C),(none:Option Int))
        ) fun z=>
       bif (cm .eql a2 h.1) then
        z false
       else
        z h.2.2.2
def cL(a1:cZ)(b0 b1 b2 b3:Int)(b4:eE)(b5:pB)(b6:sC)(b7:Int)(b8:pI)(b9 WZ:Int)(WY:cZ)(XF WU XC WX:Int)(XB:qP)(WS:mH)(XM:Int)(XL:dN)(XJ:Int)(XI:dN):Option (eB×pB×Int×pI×Int×Int×cZ):=
 (fF a1).bind fun h=>
  (bif (Option.isNone h.2) then
   bif (cm .eql h.1.1 3) then
    bif (cm .eql (h.1.2.1.length:Int) 5) then
     (Sw.idx h.1.2.1 0).bind fun K=>
      some (cm .eql K b3)
    else
     some false
   else
    some false
  else
   some false).bind fun L=>
   bif L then
    (Sw.idx h.1.2.1 0).bind fun B=>
     (Sw.idx h.1.2.1 1).bind fun C=>
      jp (fun (u:Int×pI×Int×Int×cZ)=>
       some ((none:Option Int),b5,u.1,u.2.1,u.2.2.1,u.2.2.2.1,u.2.2.2.2)
       ) fun E=>
      bif (cm .gtr (ar .or .i64 (sh .shl .i64 B 12) C) b7) then
       (Sw.idx h.1.2.1 2).bind fun D=>
        (bif (!((fP b6 D).isSome)) then
         some true
        else
         (kC ((fP b6 D).getD ([]:eE))).bind fun M=>
          (Sw.sub h.1.2.1 3 (h.1.2.1.length:Int)).bind fun N=>
           (jH M N).bind fun O=>
            some (!O)).bind fun P=>
         jp (fun (Q:Int)=>
          (Sw.idx h.1.2.1 2).bind fun R=>
           E ((ar .or .i64 (sh .shl .i64 B 12) C),((ar .or .i64 (sh .shl .i64 B 12) C),0,([]:wS)),Q,(max WZ R),([]:cZ))
          ) fun F=>
         bif P then
          F (-1:Int)
         else
          F D
      else
       E (b7,b8,b9,WZ,WY)
   else
    bif (cm .lss b7 0) then
     some ((none:Option Int),b5,b7,b8,b9,WZ,WY)
    else
     (rW b8 a1).bind fun z=>
      bif (Option.isSome z.2) then
       some (z.2,b5,b7,b8,b9,WZ,WY)
      else
       (Sw.sub WY 0 (ar .sub .i64 (b8.2.2.length:Int) (z.1.2.2.length:Int))).bind fun G=>
        lp (β:=Int) (fun (A:Int×Int)=>
         bif (cm .lss A.1 (G.length:Int)) then
          (Sw.idx G A.1).bind fun S=>
           some (.next ((ar .add .i64 A.1 1),(max A.2 S)))
         else
          some (.done (.WN A.2))
         ) (0,WZ) fun (H:Int)=>
        (Sw.sub WY (ar .sub .i64 (b8.2.2.length:Int) (z.1.2.2.length:Int)) (WY.length:Int)).bind fun T=>
         (pL b5 b1 (min H b5.1)).bind fun I=>
          some (I.2,I.1,b7,z.1,b9,H,T)
def dV(a1:(Bool×Bool×cZ))(b0 b1 b2 b3:Int)(b4:eE)(b5:pB)(b6:sC)(b7:Int)(b8:pI)(b9 WZ:Int)(WY:cZ)(XF WU XC WX:Int)(XB:qP)(WS:mH)(XM:Int)(XL:dN)(XJ:Int)(XI:dN):Option (eB×pB×Int×pI×Int×Int×cZ×Int×Int×qP×mH×Int×dN):=
 bif a1.1 then
  (cD a1.2.2 b0 b1 b2 b3 b4 b5 b6 b7 b8 b9 WZ WY XF WU XC WX XB WS XM XL XJ XI).bind fun h=>
   some (h.1,b5,b7,b8,b9,WZ,WY,h.2.1,h.2.2.1,h.2.2.2.1,h.2.2.2.2.1,h.2.2.2.2.2.1,h.2.2.2.2.2.2)
 else
  (cL a1.2.2 b0 b1 b2 b3 b4 b5 b6 b7 b8 b9 WZ WY XF WU XC WX XB WS XM XL XJ XI).bind fun u=>
   some (u.1,u.2.1,u.2.2.1,u.2.2.2.1,u.2.2.2.2.1,u.2.2.2.2.2.1,u.2.2.2.2.2.2,WU,WX,XB,WS,XJ,XI)
def cS(a1 b0 b1 b2 b3:Int)(b4:eE)(b5:pB)(b6:sC)(b7:Int)(b8:pI)(b9 WZ:Int)(WY:cZ)(XF WU XC WX:Int)(XB:qP)(WS:mH)(XM:Int)(XL:dN)(XJ:Int)(XI:dN):Option (eB×pB×Int×pI×Int×Int×cZ×Int×Int×qP×mH×Int×dN):=
 (cB a1 b0 b1 b2 b3 b4 b5 b6 b7 b8 b9 WZ WY XF WU XC WX XB WS XM XL XJ XI).bind fun u=>
  bif (!u.2) then
   some ((none:Option Int),b5,b7,b8,b9,WZ,WY,WU,WX,XB,WS,XJ,XI)
  else
   (Sw.idx WS u.1).bind fun z=>
    (cY WS).bind fun A=>
     (cC A u.1 (ar .add .i64 u.1 1)).bind fun B=>
      (dV z b0 b1 b2 b3 b4 b5 b6 b7 b8 b9 WZ WY XF WU XC WX XB B XM XL XJ XI).bind fun h=>
       some (h.1,h.2.1,h.2.2.1,h.2.2.2.1,h.2.2.2.2.1,h.2.2.2.2.2.1,h.2.2.2.2.2.2.1,h.2.2.2.2.2.2.2.1,h.2.2.2.2.2.2.2.2.1,h.2.2.2.2.2.2.2.2.2.1,h.2.2.2.2.2.2.2.2.2.2.1,h.2.2.2.2.2.2.2.2.2.2.2.1,h.2.2.2.2.2.2.2.2.2.2.2.2)
def nS(a1:Pb)(b0 b1 b2 b3:Int)(b4:eE)(b5:pB)(b6:sC)(b7:Int)(b8:pI)(b9 WZ:Int)(WY:cZ)(XF WU XC WX:Int)(XB:qP)(WS:mH)(XM:Int)(XL:dN)(XJ:Int)(XI:dN):Option (aQ×eB×Int×Int×Int×Int×eE×pB×sC×Int×pI×Int×Int×cZ×Int×Int×Int×Int×qP×mH×Int×dN×Int×dN):=
 (cS a1.2.1 b0 b1 b2 b3 b4 b5 b6 b7 b8 b9 WZ WY XF WU XC WX XB WS XM XL XJ XI).bind fun h=>
  some (aS,h.1,b0,b1,b2,b3,b4,h.2.1,b6,h.2.2.1,h.2.2.2.1,h.2.2.2.2.1,h.2.2.2.2.2.1,h.2.2.2.2.2.2.1,XF,h.2.2.2.2.2.2.2.1,XC,h.2.2.2.2.2.2.2.2.1,h.2.2.2.2.2.2.2.2.2.1,h.2.2.2.2.2.2.2.2.2.2.1,XM,XL,h.2.2.2.2.2.2.2.2.2.2.2.1,h.2.2.2.2.2.2.2.2.2.2.2.2)
def gA(a1 b0 b1 b2 b3:Int)(b4:eE)(b5:pB)(b6:sC)(b7:Int)(b8:pI)(b9 WZ:Int)(WY:cZ)(XF WU XC WX:Int)(XB:qP)(WS:mH)(XM:Int)(XL:dN)(XJ:Int)(XI:dN):Option (eB×mH):=
 (cB a1 b0 b1 b2 b3 b4 b5 b6 b7 b8 b9 WZ WY XF WU XC WX XB WS XM XL XJ XI).bind fun h=>
  jp (fun (z:mH)=>
   some ((none:Option Int),z)
   ) fun u=>
  bif h.2 then
   (cY WS).bind fun A=>
    (cC A h.1 (ar .add .i64 h.1 1)).bind fun B=>
     u B
  else
   u WS
def nT(a1:Pb)(b0 b1 b2 b3:Int)(b4:eE)(b5:pB)(b6:sC)(b7:Int)(b8:pI)(b9 WZ:Int)(WY:cZ)(XF WU XC WX:Int)(XB:qP)(WS:mH)(XM:Int)(XL:dN)(XJ:Int)(XI:dN):Option (aQ×eB×Int×Int×Int×Int×eE×pB×sC×Int×pI×Int×Int×cZ×Int×Int×Int×Int×qP×mH×Int×dN×Int×dN):=
 (gA a1.2.1 b0 b1 b2 b3 b4 b5 b6 b7 b8 b9 WZ WY XF WU XC WX XB WS XM XL XJ XI).bind fun h=>
  some (aS,h.1,b0,b1,b2,b3,b4,b5,b6,b7,b8,b9,WZ,WY,XF,WU,XC,WX,XB,h.2,XM,XL,XJ,XI)
def eQ(a1 b0 b1 b2 b3:Int)(b4:eE)(b5:pB)(b6:sC)(b7:Int)(b8:pI)(b9 WZ:Int)(WY:cZ)(XF WU XC WX:Int)(XB:qP)(WS:mH)(XM:Int)(XL:dN)(XJ:Int)(XI:dN):Option (eB×mH):=
 (cB a1 b0 b1 b2 b3 b4 b5 b6 b7 b8 b9 WZ WY XF WU XC WX XB WS XM XL XJ XI).bind fun h=>
  (bif h.2 then
   some (cm .lss (WS.length:Int) 64)
  else
   some false).bind fun z=>
   jp (fun (A:mH)=>
    some ((none:Option Int),A)
    ) fun u=>
   bif z then
    (Sw.idx WS h.1).bind fun B=>
     (Sw.app WS ([B]:mH)).bind fun C=>
      u C
   else
    u WS
def nU(a1:Pb)(b0 b1 b2 b3:Int)(b4:eE)(b5:pB)(b6:sC)(b7:Int)(b8:pI)(b9 WZ:Int)(WY:cZ)(XF WU XC WX:Int)(XB:qP)(WS:mH)(XM:Int)(XL:dN)(XJ:Int)(XI:dN):Option (aQ×eB×Int×Int×Int×Int×eE×pB×sC×Int×pI×Int×Int×cZ×Int×Int×Int×Int×qP×mH×Int×dN×Int×dN):=
 (eQ a1.2.1 b0 b1 b2 b3 b4 b5 b6 b7 b8 b9 WZ WY XF WU XC WX XB WS XM XL XJ XI).bind fun h=>
  some (aS,h.1,b0,b1,b2,b3,b4,b5,b6,b7,b8,b9,WZ,WY,XF,WU,XC,WX,XB,h.2,XM,XL,XJ,XI)
def lY(a0:(Int×dN)):Option (dN):=
 (aP a0.2.1).bind fun h=>
  (bT a0.2.2.1).bind fun u=>
   some (h,u,a0.2.2.2)
def iD(VY:Int)(WI:dN)(a1:Int):Option ((Option (Int×dN))×eB×Int×dN):=
 (lY (VY,WI)).bind fun z=>
  (mT z a1).bind fun h=>
   uT h.1 (
    some ((none:(Option (Int×dN))),h.2,VY,WI)
    ) fun u=>
    some ((some (u.1,u.2)),h.2,VY,WI)
def iX(b0 b1 b2 b3:Int)(b4:eE)(b5:pB)(b6:sC)(b7:Int)(b8:pI)(b9 WZ:Int)(WY:cZ)(XF WU XC WX:Int)(XB:qP)(WS:mH)(XM:Int)(XL:dN)(XJ:Int)(XI:dN):Option (eB×Int×Int×Int×dN):=
 (fY (XJ,XI)).bind fun h=>
  bif (Option.isSome h.2.2) then
   some (h.2.2,b2,b3,XJ,XI)
  else
   (cV XJ XI ([]:mN) h.1 (ar .add .i64 h.2.1 1)).bind fun u=>
    some (u.1,h.1,(ar .add .i64 h.2.1 1),u.2.1,u.2.2)
def gE(b0 b1 b2 b3:Int)(b4:eE)(b5:pB)(b6:sC)(b7:Int)(b8:pI)(b9 WZ:Int)(WY:cZ)(XF WU XC WX:Int)(XB:qP)(WS:mH)(XM:Int)(XL:dN)(XJ:Int)(XI:dN)(zb:Int)(yz:dN):Option (eB×Int×Int×Int×eE×pB×sC×Int×pI×Int×Int×cZ×Int×dN):=
 (iX b0 b0 0 0 ([]:eE) (0,([]:mN),([]:sG),false) ([]:List (Int×eE)) (-1:Int) (0,0,([]:wS)) 0 0 ([]:cZ) XF WU XC WX XB WS XJ XI zb yz).bind fun h=>
  bif (Option.isSome h.1) then
   some (h.1,b0,h.2.1,h.2.2.1,([]:eE),(0,([]:mN),([]:sG),false),([]:List (Int×eE)),(-1:Int),(0,0,([]:wS)),0,0,([]:cZ),h.2.2.2.1,h.2.2.2.2)
  else
   (gD h.2.2.2).bind fun u=>
    (eP b0 b0 h.2.1 h.2.2.1 u.1 (h.2.1,([]:mN),([]:sG),true) ([]:List (Int×eE)) (-1:Int) (0,0,([]:wS)) 0 0 ([]:cZ) XF WU XC WX XB WS h.2.2.2.1 h.2.2.2.2 XJ XI).bind fun z=>
     some (u.2,b0,h.2.1,h.2.2.1,u.1,(h.2.1,([]:mN),([]:sG),true),z,(-1:Int),(0,0,([]:wS)),0,0,([]:cZ),h.2.2.2.1,h.2.2.2.2)
def kV(a1:Pb)(b0 b1 b2 b3:Int)(b4:eE)(b5:pB)(b6:sC)(b7:Int)(b8:pI)(b9 WZ:Int)(WY:cZ)(XF WU XC WX:Int)(XB:qP)(WS:mH)(XM:Int)(XL:dN)(XJ:Int)(XI:dN):Option (aQ×eB×Int×Int×Int×Int×eE×pB×sC×Int×pI×Int×Int×cZ×Int×Int×Int×Int×qP×mH×Int×dN×Int×dN):=
 (iD XM XL b0).bind fun z=>
  uT z.1 (
   jp (fun (_:Unit)=>
    some (aS,z.2.1,b0,b1,b2,b3,b4,b5,b6,b7,b8,b9,WZ,WY,XF,WU,XC,WX,XB,WS,z.2.2.1,z.2.2.2,XJ,XI)
    ) fun C=>
   bif (Option.isNone z.2.1) then
    none
   else
    C ()
   ) fun A=>
   jp (fun (h:eB×Int×Int×Int×pB×Int×pI×Int×Int×Int×dN×eE×sC×cZ)=>
    some (aS,h.1,b0,h.2.1,h.2.2.1,h.2.2.2.1,h.2.2.2.2.2.2.2.2.2.2.2.1,h.2.2.2.2.1,h.2.2.2.2.2.2.2.2.2.2.2.2.1,h.2.2.2.2.2.1,h.2.2.2.2.2.2.1,h.2.2.2.2.2.2.2.1,h.2.2.2.2.2.2.2.2.1,h.2.2.2.2.2.2.2.2.2.2.2.2.2,XF,WU,XC,WX,XB,WS,h.2.2.2.2.2.2.2.2.2.1,h.2.2.2.2.2.2.2.2.2.2.1,XJ,XI)
    ) fun B=>
   bif (Option.isNone z.2.1) then
    (gE b0 b1 b2 b3 b4 b5 b6 b7 b8 b9 WZ WY XF WU XC WX XB WS z.2.2.1 z.2.2.2 XJ XI A.1 A.2).bind fun u=>
     B (u.1,u.2.1,u.2.2.1,u.2.2.2.1,u.2.2.2.2.2.1,u.2.2.2.2.2.2.2.1,u.2.2.2.2.2.2.2.2.1,u.2.2.2.2.2.2.2.2.2.1,u.2.2.2.2.2.2.2.2.2.2.1,u.2.2.2.2.2.2.2.2.2.2.2.2.1,u.2.2.2.2.2.2.2.2.2.2.2.2.2,u.2.2.2.2.1,u.2.2.2.2.2.2.1,u.2.2.2.2.2.2.2.2.2.2.2.1)
   else
    B (z.2.1,b1,b2,b3,b5,b7,b8,b9,WZ,z.2.2.1,z.2.2.2,b4,b6,WY)
def gF(b0 b1 b2 b3:Int)(b4:eE)(b5:pB)(b6:sC)(b7:Int)(b8:pI)(b9 WZ:Int)(WY:cZ)(XF WU XC WX:Int)(XB:qP)(WS:mH)(XM:Int)(XL:dN)(XJ:Int)(XI:dN)(zb:Int)(yz:dN):Option (eB×Int×Int×Int×Int×qP×Int×dN):=
 (gH b0 b1 b2 b3 b4 b5 b6 b7 b8 b9 WZ WY b0 0 0 (-1:Int) (0,0) WS XM XL zb yz).bind fun h=>
  some (h.1,b0,h.2.1,h.2.2.1,(-1:Int),(0,0),h.2.2.2.1,h.2.2.2.2)
def kL(a1:Pb)(b0 b1 b2 b3:Int)(b4:eE)(b5:pB)(b6:sC)(b7:Int)(b8:pI)(b9 WZ:Int)(WY:cZ)(XF WU XC WX:Int)(XB:qP)(WS:mH)(XM:Int)(XL:dN)(XJ:Int)(XI:dN):Option (aQ×eB×Int×Int×Int×Int×eE×pB×sC×Int×pI×Int×Int×cZ×Int×Int×Int×Int×qP×mH×Int×dN×Int×dN):=
 (iD XJ XI b0).bind fun h=>
  uT h.1 (
   jp (fun (_:Unit)=>
    some (aS,h.2.1,b0,b1,b2,b3,b4,b5,b6,b7,b8,b9,WZ,WY,XF,WU,XC,WX,XB,WS,XM,XL,h.2.2.1,h.2.2.2)
    ) fun C=>
   bif (Option.isNone h.2.1) then
    none
   else
    C ()
   ) fun A=>
   jp (fun (u:eB×Int×Int×Int×Int×qP×Int×dN)=>
    some (aS,u.1,b0,b1,b2,b3,b4,b5,b6,b7,b8,b9,WZ,WY,u.2.1,u.2.2.1,u.2.2.2.1,u.2.2.2.2.1,u.2.2.2.2.2.1,WS,XM,XL,u.2.2.2.2.2.2.1,u.2.2.2.2.2.2.2)
    ) fun B=>
   bif (Option.isNone h.2.1) then
    (gF b0 b1 b2 b3 b4 b5 b6 b7 b8 b9 WZ WY XF WU XC WX XB WS XM XL h.2.2.1 h.2.2.2 A.1 A.2).bind fun z=>
     B (z.1,z.2.1,z.2.2.1,z.2.2.2.1,z.2.2.2.2.1,z.2.2.2.2.2.1,z.2.2.2.2.2.2.1,z.2.2.2.2.2.2.2)
   else
    B (h.2.1,XF,WU,XC,WX,XB,h.2.2.1,h.2.2.2)
def pV(a0:(Bool×cZ)):Option (cZ):=
 bif a0.1 then
  some ([]:cZ)
 else
  (Sw.app ([]:cZ) a0.2).bind fun h=>
   some h
def nG(a0:cZ):Option cZ:=Sw.app [] a0
def eR(a1:Pb)(b0 b1 b2 b3:Int)(b4:eE)(b5:pB)(b6:sC)(b7:Int)(b8:pI)(b9 WZ:Int)(WY:cZ)(XF WU XC WX:Int)(XB:qP)(WS:mH)(XM:Int)(XL:dN)(XJ:Int)(XI:dN):Option (eB×mH):=
 (cB a1.2.1 b0 b1 b2 b3 b4 b5 b6 b7 b8 b9 WZ WY XF WU XC WX XB WS XM XL XJ XI).bind fun u=>
  (bif (!u.2) then
   some true
  else
   (Sw.idx WS u.1).bind fun z=>
    some z.2.1).bind fun A=>
   bif A then
    some ((none:Option Int),WS)
   else
    (Sw.idx WS u.1).bind fun B=>
     (nG B.2.2).bind fun h=>
      (nz (h.length:Int)).bind fun _=>
       (Sw.idx h (ar .rem .i64 (max a1.2.2.1 (IntKind.wrap .i64 (0 - (ar .add .i64 a1.2.2.1 1)))) (h.length:Int))).bind fun C=>
        (Sw.idx a1.2.2.2 0).bind fun D=>
         (Sw.idx h (ar .rem .i64 (max a1.2.2.1 (IntKind.wrap .i64 (0 - (ar .add .i64 a1.2.2.1 1)))) (h.length:Int))).bind fun _=>
          (Sw.idx WS u.1).bind fun E=>
           (Sw.idx WS u.1).bind fun _=>
            some ((none:Option Int),(List.set WS (Int.toNat u.1) (E.1,true,(List.set h (Int.toNat (ar .rem .i64 (max a1.2.2.1 (IntKind.wrap .i64 (0 - (ar .add .i64 a1.2.2.1 1)))) (h.length:Int))) (ar .xor .u8 C (ar .or .u8 D 1))))))
def mW(a1:Pb)(b0 b1 b2 b3:Int)(b4:eE)(b5:pB)(b6:sC)(b7:Int)(b8:pI)(b9 WZ:Int)(WY:cZ)(XF WU XC WX:Int)(XB:qP)(WS:mH)(XM:Int)(XL:dN)(XJ:Int)(XI:dN):Option (aQ×eB×Int×Int×Int×Int×eE×pB×sC×Int×pI×Int×Int×cZ×Int×Int×Int×Int×qP×mH×Int×dN×Int×dN):=
 (eR a1 b0 b1 b2 b3 b4 b5 b6 b7 b8 b9 WZ WY XF WU XC WX XB WS XM XL XJ XI).bind fun h=>
  some (aS,h.1,b0,b1,b2,b3,b4,b5,b6,b7,b8,b9,WZ,WY,XF,WU,XC,WX,XB,h.2,XM,XL,XJ,XI)
def wF(i:Nat)(a1:Pb)(b0 b1 b2 b3:Int)(b4:eE)(b5:pB)(b6:sC)(b7:Int)(b8:pI)(b9 WZ:Int)(WY:cZ)(XF WU XC WX:Int)(XB:qP)(WS:mH)(XM:Int)(XL:dN)(XJ:Int)(XI:dN):Option (aQ×eB×Int×Int×Int×Int×eE×pB×sC×Int×pI×Int×Int×cZ×Int×Int×Int×Int×qP×mH×Int×dN×Int×dN):=match i with
 | 0=>nN a1 b0 b1 b2 b3 b4 b5 b6 b7 b8 b9 WZ WY XF WU XC WX XB WS XM XL XJ XI
 | 1=>nO a1 b0 b1 b2 b3 b4 b5 b6 b7 b8 b9 WZ WY XF WU XC WX XB WS XM XL XJ XI
 | 2=>nP a1 b0 b1 b2 b3 b4 b5 b6 b7 b8 b9 WZ WY XF WU XC WX XB WS XM XL XJ XI
 | 3=>nQ a1 b0 b1 b2 b3 b4 b5 b6 b7 b8 b9 WZ WY XF WU XC WX XB WS XM XL XJ XI
 | 4=>nR a1 b0 b1 b2 b3 b4 b5 b6 b7 b8 b9 WZ WY XF WU XC WX XB WS XM XL XJ XI
 | 5=>nS a1 b0 b1 b2 b3 b4 b5 b6 b7 b8 b9 WZ WY XF WU XC WX XB WS XM XL XJ XI
 | 6=>nT a1 b0 b1 b2 b3 b4 b5 b6 b7 b8 b9 WZ WY XF WU XC WX XB WS XM XL XJ XI
 | 7=>nU a1 b0 b1 b2 b3 b4 b5 b6 b7 b8 b9 WZ WY XF WU XC WX XB WS XM XL XJ XI
 | 8=>kV a1 b0 b1 b2 b3 b4 b5 b6 b7 b8 b9 WZ WY XF WU XC WX XB WS XM XL XJ XI
 | 9=>kL a1 b0 b1 b2 b3 b4 b5 b6 b7 b8 b9 WZ WY XF WU XC WX XB WS XM XL XJ XI
 | 10=>mW a1 b0 b1 b2 b3 b4 b5 b6 b7 b8 b9 WZ WY XF WU XC WX XB WS XM XL XJ XI
 |_=>none
def dW(a1:(Int×aQ×Int×Int×Int×eE))(b0 b1 b2 b3:Int)(b4:eE)(b5:pB)(b6:sC)(b7:Int)(b8:pI)(b9 WZ:Int)(WY:cZ)(XF WU XC WX:Int)(XB:qP)(WS:mH)(XM:Int)(XL:dN)(XJ:Int)(XI:dN):Option ((Int×aQ×Int×Int×Int×eE)×eB):=
 (gD (XJ,XI)).bind fun h=>
  some ((a1.1,a1.2.1,b2,WZ,WU,h.1),h.2)
def iC(a1:Pb)(b0 b1 b2 b3:Int)(b4:eE)(b5:pB)(b6:sC)(b7:Int)(b8:pI)(b9 WZ:Int)(WY:cZ)(XF WU XC WX:Int)(XB:qP)(WS:mH)(XM:Int)(XL:dN)(XJ:Int)(XI:dN):Option ((Int×aQ×Int×Int×Int×eE)×eB×Int×Int×Int×Int×eE×pB×sC×Int×pI×Int×Int×cZ×Int×Int×Int×Int×qP×mH×Int×dN×Int×dN):=
 (bif (cm .lss a1.1 0) then
  some true
 else
  some (cm .geq a1.1 11)).bind fun C=>
  jp (fun (u:Int×Int×Int×Int×pB×Int×pI×Int×Int×Int×Int×Int×Int×qP×Int×aQ×Int×dN×eE×sC×cZ×Int×dN×mH)=>
   (dW (u.2.2.2.2.2.2.2.2.2.2.2.2.2.2.1,u.2.2.2.2.2.2.2.2.2.2.2.2.2.2.2.1,0,0,0,([]:eE)) u.1 u.2.1 u.2.2.1 u.2.2.2.1 u.2.2.2.2.2.2.2.2.2.2.2.2.2.2.2.2.2.2.1 u.2.2.2.2.1 u.2.2.2.2.2.2.2.2.2.2.2.2.2.2.2.2.2.2.2.1 u.2.2.2.2.2.1 u.2.2.2.2.2.2.1 u.2.2.2.2.2.2.2.1 u.2.2.2.2.2.2.2.2.1 u.2.2.2.2.2.2.2.2.2.2.2.2.2.2.2.2.2.2.2.2.1 u.2.2.2.2.2.2.2.2.2.1 u.2.2.2.2.2.2.2.2.2.2.1 u.2.2.2.2.2.2.2.2.2.2.2.1 u.2.2.2.2.2.2.2.2.2.2.2.2.1 u.2.2.2.2.2.2.2.2.2.2.2.2.2.1 u.2.2.2.2.2.2.2.2.2.2.2.2.2.2.2.2.2.2.2.2.2.2.2 u.2.2.2.2.2.2.2.2.2.2.2.2.2.2.2.2.1 u.2.2.2.2.2.2.2.2.2.2.2.2.2.2.2.2.2.1 u.2.2.2.2.2.2.2.2.2.2.2.2.2.2.2.2.2.2.2.2.2.1 u.2.2.2.2.2.2.2.2.2.2.2.2.2.2.2.2.2.2.2.2.2.2.1).bind fun A=>
    some (A.1,A.2,u.1,u.2.1,u.2.2.1,u.2.2.2.1,u.2.2.2.2.2.2.2.2.2.2.2.2.2.2.2.2.2.2.1,u.2.2.2.2.1,u.2.2.2.2.2.2.2.2.2.2.2.2.2.2.2.2.2.2.2.1,u.2.2.2.2.2.1,u.2.2.2.2.2.2.1,u.2.2.2.2.2.2.2.1,u.2.2.2.2.2.2.2.2.1,u.2.2.2.2.2.2.2.2.2.2.2.2.2.2.2.2.2.2.2.2.1,u.2.2.2.2.2.2.2.2.2.1,u.2.2.2.2.2.2.2.2.2.2.1,u.2.2.2.2.2.2.2.2.2.2.2.1,u.2.2.2.2.2.2.2.2.2.2.2.2.1,u.2.2.2.2.2.2.2.2.2.2.2.2.2.1,u.2.2.2.2.2.2.2.2.2.2.2.2.2.2.2.2.2.2.2.2.2.2.2,u.2.2.2.2.2.2.2.2.2.2.2.2.2.2.2.2.1,u.2.2.2.2.2.2.2.2.2.2.2.2.2.2.2.2.2.1,u.2.2.2.2.2.2.2.2.2.2.2.2.2.2.2.2.2.2.2.2.2.1,u.2.2.2.2.2.2.2.2.2.2.2.2.2.2.2.2.2.2.2.2.2.2.1)
   ) fun B=>
  bif C then
   B (b0,b1,b2,b3,b5,b7,b8,b9,WZ,XF,WU,XC,WX,XB,3,aS,XM,XL,b4,b6,WY,XJ,XI,WS)
  else
   (uE a1.1).bind fun D=>
    (wF D a1 b0 b1 b2 b3 b4 b5 b6 b7 b8 b9 WZ WY XF WU XC WX XB WS XM XL XJ XI).bind fun h=>
     (bif (Option.isSome h.2.1) then
      some ((!(Option.isSome h.2.1)),(Option.getD h.2.1 0))
     else
      some (false,0)).bind fun z=>
      bif z.1 then
       some ((z.2,aS,0,0,0,([]:eE)),h.2.1,h.2.2.1,h.2.2.2.1,h.2.2.2.2.1,h.2.2.2.2.2.1,h.2.2.2.2.2.2.1,h.2.2.2.2.2.2.2.1,h.2.2.2.2.2.2.2.2.1,h.2.2.2.2.2.2.2.2.2.1,h.2.2.2.2.2.2.2.2.2.2.1,h.2.2.2.2.2.2.2.2.2.2.2.1,h.2.2.2.2.2.2.2.2.2.2.2.2.1,h.2.2.2.2.2.2.2.2.2.2.2.2.2.1,h.2.2.2.2.2.2.2.2.2.2.2.2.2.2.1,h.2.2.2.2.2.2.2.2.2.2.2.2.2.2.2.1,h.2.2.2.2.2.2.2.2.2.2.2.2.2.2.2.2.1,h.2.2.2.2.2.2.2.2.2.2.2.2.2.2.2.2.2.1,h.2.2.2.2.2.2.2.2.2.2.2.2.2.2.2.2.2.2.1,h.2.2.2.2.2.2.2.2.2.2.2.2.2.2.2.2.2.2.2.1,h.2.2.2.2.2.2.2.2.2.2.2.2.2.2.2.2.2.2.2.2.1,h.2.2.2.2.2.2.2.2.2.2.2.2.2.2.2.2.2.2.2.2.2.1,h.2.2.2.2.2.2.2.2.2.2.2.2.2.2.2.2.2.2.2.2.2.2.1,h.2.2.2.2.2.2.2.2.2.2.2.2.2.2.2.2.2.2.2.2.2.2.2)
      else
       B (h.2.2.1,h.2.2.2.1,h.2.2.2.2.1,h.2.2.2.2.2.1,h.2.2.2.2.2.2.2.1,h.2.2.2.2.2.2.2.2.2.1,h.2.2.2.2.2.2.2.2.2.2.1,h.2.2.2.2.2.2.2.2.2.2.2.1,h.2.2.2.2.2.2.2.2.2.2.2.2.1,h.2.2.2.2.2.2.2.2.2.2.2.2.2.2.1,h.2.2.2.2.2.2.2.2.2.2.2.2.2.2.2.1,h.2.2.2.2.2.2.2.2.2.2.2.2.2.2.2.2.1,h.2.2.2.2.2.2.2.2.2.2.2.2.2.2.2.2.2.1,h.2.2.2.2.2.2.2.2.2.2.2.2.2.2.2.2.2.2.1,z.2,h.1,h.2.2.2.2.2.2.2.2.2.2.2.2.2.2.2.2.2.2.2.2.1,h.2.2.2.2.2.2.2.2.2.2.2.2.2.2.2.2.2.2.2.2.2.1,h.2.2.2.2.2.2.1,h.2.2.2.2.2.2.2.2.1,h.2.2.2.2.2.2.2.2.2.2.2.2.2.1,h.2.2.2.2.2.2.2.2.2.2.2.2.2.2.2.2.2.2.2.2.2.2.1,h.2.2.2.2.2.2.2.2.2.2.2.2.2.2.2.2.2.2.2.2.2.2.2,h.2.2.2.2.2.2.2.2.2.2.2.2.2.2.2.2.2.2.2.1)
def iQ(a0:Int)(a1:xL):Option ((Option (Int×Int×Int×Int×eE×pB×sC×Int×pI×Int×Int×cZ×Int×Int×Int×Int×qP×mH×Int×dN×Int×dN))×Ks×eB):=
 (bif (cm .lss a0 1) then
  some true
 else
  some (cm .gtr a0 32)).bind fun C=>
  bif C then
   some ((none:_),([]:Ks),(some 1))
  else
   bif (cm .gtr (a1.length:Int) 300) then
    some ((none:_),([]:Ks),(some 2))
   else
    (iK a0).bind fun B=>
     uT B.1 (
      bif (Option.isSome B.2) then
       some ((none:_),([]:Ks),B.2)
      else
       lp (β:=Unit) (fun (_:Unit)=>
        bif (cm .lss 0 (a1.length:Int)) then
         (Sw.idx a1 0).bind fun _=>
          none
        else
         some (.done (.WN ()))
        ) () fun (_:Unit)=>
       some ((none:_),([]:Ks),(none:Option Int))
      ) fun A=>
      bif (Option.isSome B.2) then
       some ((none:_),([]:Ks),B.2)
      else
       lp (β:=Int×Int×Int×Int×pB×Int×pI×Int×Int×Int×Int×Int×Int×qP×Ks×Int×dN×eE×sC×cZ×Int×dN×mH) (fun (h:Int×Int×Int×Int×Int×pB×Int×pI×Int×Int×Int×Int×Int×Int×qP×Ks×Int×dN×eE×sC×cZ×Int×dN×mH)=>
        bif (cm .lss h.1 (a1.length:Int)) then
         (Sw.idx a1 h.1).bind fun D=>
          (iC D h.2.1 h.2.2.1 h.2.2.2.1 h.2.2.2.2.1 h.2.2.2.2.2.2.2.2.2.2.2.2.2.2.2.2.2.2.1 h.2.2.2.2.2.1 h.2.2.2.2.2.2.2.2.2.2.2.2.2.2.2.2.2.2.2.1 h.2.2.2.2.2.2.1 h.2.2.2.2.2.2.2.1 h.2.2.2.2.2.2.2.2.1 h.2.2.2.2.2.2.2.2.2.1 h.2.2.2.2.2.2.2.2.2.2.2.2.2.2.2.2.2.2.2.2.1 h.2.2.2.2.2.2.2.2.2.2.1 h.2.2.2.2.2.2.2.2.2.2.2.1 h.2.2.2.2.2.2.2.2.2.2.2.2.1 h.2.2.2.2.2.2.2.2.2.2.2.2.2.1 h.2.2.2.2.2.2.2.2.2.2.2.2.2.2.1 h.2.2.2.2.2.2.2.2.2.2.2.2.2.2.2.2.2.2.2.2.2.2.2 h.2.2.2.2.2.2.2.2.2.2.2.2.2.2.2.2.1 h.2.2.2.2.2.2.2.2.2.2.2.2.2.2.2.2.2.1 h.2.2.2.2.2.2.2.2.2.2.2.2.2.2.2.2.2.2.2.2.2.1 h.2.2.2.2.2.2.2.2.2.2.2.2.2.2.2.2.2.2.2.2.2.2.1).bind fun u=>
           bif (Option.isSome u.2.1) then
            some (.done (.ret ((none:_),([]:Ks),u.2.1)))
           else
            (Sw.app h.2.2.2.2.2.2.2.2.2.2.2.2.2.2.2.1 ([u.1]:Ks)).bind fun E=>
             some (.next ((ar .add .i64 h.1 1),u.2.2.1,u.2.2.2.1,u.2.2.2.2.1,u.2.2.2.2.2.1,u.2.2.2.2.2.2.2.1,u.2.2.2.2.2.2.2.2.2.1,u.2.2.2.2.2.2.2.2.2.2.1,u.2.2.2.2.2.2.2.2.2.2.2.1,u.2.2.2.2.2.2.2.2.2.2.2.2.1,u.2.2.2.2.2.2.2.2.2.2.2.2.2.2.1,u.2.2.2.2.2.2.2.2.2.2.2.2.2.2.2.1,u.2.2.2.2.2.2.2.2.2.2.2.2.2.2.2.2.1,u.2.2.2.2.2.2.2.2.2.2.2.2.2.2.2.2.2.1,u.2.2.2.2.2.2.2.2.2.2.2.2.2.2.2.2.2.2.1,E,u.2.2.2.2.2.2.2.2.2.2.2.2.2.2.2.2.2.2.2.2.1,u.2.2.2.2.2.2.2.2.2.2.2.2.2.2.2.2.2.2.2.2.2.1,u.2.2.2.2.2.2.1,u.2.2.2.2.2.2.2.2.1,u.2.2.2.2.2.2.2.2.2.2.2.2.2.1,u.2.2.2.2.2.2.2.2.2.2.2.2.2.2.2.2.2.2.2.2.2.2.1,u.2.2.2.2.2.2.2.2.2.2.2.2.2.2.2.2.2.2.2.2.2.2.2,u.2.2.2.2.2.2.2.2.2.2.2.2.2.2.2.2.2.2.2.1))
        else
         some (.done (.WN (h.2.1,h.2.2.1,h.2.2.2.1,h.2.2.2.2.1,h.2.2.2.2.2.1,h.2.2.2.2.2.2.1,h.2.2.2.2.2.2.2.1,h.2.2.2.2.2.2.2.2.1,h.2.2.2.2.2.2.2.2.2.1,h.2.2.2.2.2.2.2.2.2.2.1,h.2.2.2.2.2.2.2.2.2.2.2.1,h.2.2.2.2.2.2.2.2.2.2.2.2.1,h.2.2.2.2.2.2.2.2.2.2.2.2.2.1,h.2.2.2.2.2.2.2.2.2.2.2.2.2.2.1,h.2.2.2.2.2.2.2.2.2.2.2.2.2.2.2.1,h.2.2.2.2.2.2.2.2.2.2.2.2.2.2.2.2.1,h.2.2.2.2.2.2.2.2.2.2.2.2.2.2.2.2.2.1,h.2.2.2.2.2.2.2.2.2.2.2.2.2.2.2.2.2.2.1,h.2.2.2.2.2.2.2.2.2.2.2.2.2.2.2.2.2.2.2.1,h.2.2.2.2.2.2.2.2.2.2.2.2.2.2.2.2.2.2.2.2.1,h.2.2.2.2.2.2.2.2.2.2.2.2.2.2.2.2.2.2.2.2.2.1,h.2.2.2.2.2.2.2.2.2.2.2.2.2.2.2.2.2.2.2.2.2.2.1,h.2.2.2.2.2.2.2.2.2.2.2.2.2.2.2.2.2.2.2.2.2.2.2)))
        ) (0,A.1,A.2.1,A.2.2.1,A.2.2.2.1,A.2.2.2.2.2.1,A.2.2.2.2.2.2.2.1,A.2.2.2.2.2.2.2.2.1,A.2.2.2.2.2.2.2.2.2.1,A.2.2.2.2.2.2.2.2.2.2.1,A.2.2.2.2.2.2.2.2.2.2.2.2.1,A.2.2.2.2.2.2.2.2.2.2.2.2.2.1,A.2.2.2.2.2.2.2.2.2.2.2.2.2.2.1,A.2.2.2.2.2.2.2.2.2.2.2.2.2.2.2.1,A.2.2.2.2.2.2.2.2.2.2.2.2.2.2.2.2.1,([]:Ks),A.2.2.2.2.2.2.2.2.2.2.2.2.2.2.2.2.2.2.1,A.2.2.2.2.2.2.2.2.2.2.2.2.2.2.2.2.2.2.2.1,A.2.2.2.2.1,A.2.2.2.2.2.2.1,A.2.2.2.2.2.2.2.2.2.2.2.1,A.2.2.2.2.2.2.2.2.2.2.2.2.2.2.2.2.2.2.2.2.1,A.2.2.2.2.2.2.2.2.2.2.2.2.2.2.2.2.2.2.2.2.2,A.2.2.2.2.2.2.2.2.2.2.2.2.2.2.2.2.2.1) fun (z:Int×Int×Int×Int×pB×Int×pI×Int×Int×Int×Int×Int×Int×qP×Ks×Int×dN×eE×sC×cZ×Int×dN×mH)=>
       some ((some (z.1,z.2.1,z.2.2.1,z.2.2.2.1,z.2.2.2.2.2.2.2.2.2.2.2.2.2.2.2.2.2.1,z.2.2.2.2.1,z.2.2.2.2.2.2.2.2.2.2.2.2.2.2.2.2.2.2.1,z.2.2.2.2.2.1,z.2.2.2.2.2.2.1,z.2.2.2.2.2.2.2.1,z.2.2.2.2.2.2.2.2.1,z.2.2.2.2.2.2.2.2.2.2.2.2.2.2.2.2.2.2.2.1,z.2.2.2.2.2.2.2.2.2.1,z.2.2.2.2.2.2.2.2.2.2.1,z.2.2.2.2.2.2.2.2.2.2.2.1,z.2.2.2.2.2.2.2.2.2.2.2.2.1,z.2.2.2.2.2.2.2.2.2.2.2.2.2.1,z.2.2.2.2.2.2.2.2.2.2.2.2.2.2.2.2.2.2.2.2.2.2,z.2.2.2.2.2.2.2.2.2.2.2.2.2.2.2.1,z.2.2.2.2.2.2.2.2.2.2.2.2.2.2.2.2.1,z.2.2.2.2.2.2.2.2.2.2.2.2.2.2.2.2.2.2.2.2.1,z.2.2.2.2.2.2.2.2.2.2.2.2.2.2.2.2.2.2.2.2.2.1)),z.2.2.2.2.2.2.2.2.2.2.2.2.2.2.1,(none:Option Int))
def Mz(a0:eB)(a1:Int):Option (Bool):=
 bif (Option.isNone a0) then
  some (cm .eql a1 0)
 else
  (bif (cm .neq a1 0) then
   some (a0==(some a1))
  else
   some false).bind fun h=>
   some h
def kT(a0:Int):Option ((Option (eE×(List eE)))):=
 (Sw.mk a0 aS).bind fun h=>
  (Sw.mk a0 aS).bind fun u=>
   (Sw.app ([]:(List eE)) ([u]:(List eE))).bind fun z=>
    some (some (h,z))
def jP(a0:eE):Option (eE):=
 (Sw.app ([]:eE) a0).bind fun h=>
  some h
def fI(a0:(eE×(List eE))):Option (Int):=
 some (ar .sub .i64 (a0.2.length:Int) 1)
def iR(VY:eE)(WI:(List eE))(a1:Pb):Option (Int×aQ×eE×(List eE)):=
 (bif (cm .lss a1.1 0) then
  some true
 else
  some (cm .geq a1.1 11)).bind fun h=>
  bif h then
   some (3,aS,VY,WI)
  else
   (bif (cm .eql a1.1 0) then
    bif (cm .lss a1.2.1 0) then
     some true
    else
     some (cm .geq a1.2.1 (VY.length:Int))
   else
    bif (cm .eql a1.1 1) then
     bif (cm .lss a1.2.1 0) then
      some true
     else
      some (cm .geq a1.2.1 (VY.length:Int))
    else
     bif (cm .eql a1.1 2) then
      bif (cm .lss a1.2.1 0) then
       some true
      else
       some (cm .geq a1.2.1 (VY.length:Int))
     else
      some false).bind fun u=>
    bif u then
     some (1,aS,VY,WI)
    else
     bif (cm .eql a1.1 0) then
      (Sw.idx VY a1.2.1).bind fun _=>
       some (0,aS,(List.set VY (Int.toNat a1.2.1) a1.2.2.2),WI)
     else
      bif (cm .eql a1.1 1) then
       (Sw.idx VY a1.2.1).bind fun _=>
        some (0,aS,(List.set VY (Int.toNat a1.2.1) aS),WI)
      else
       bif (cm .eql a1.1 2) then
        (Sw.idx VY a1.2.1).bind fun z=>
         some (0,z,VY,WI)
       else
        bif (cm .eql a1.1 3) then
         (jP VY).bind fun A=>
          (Sw.app WI ([A]:(List eE))).bind fun B=>
           some (0,aS,VY,B)
        else
         bif (cm .eql a1.1 8) then
          (fI (VY,WI)).bind fun C=>
           (Sw.idx WI C).bind fun D=>
            (jP D).bind fun E=>
             some (0,aS,E,WI)
         else
          some (0,aS,VY,WI)
def oD(a0 a1:eE):Option (Bool):=
 bif (cm .neq (a0.length:Int) (a1.length:Int)) then
  some false
 else
  lp (β:=Unit) (fun (h:Int)=>
   bif (cm .lss h (a0.length:Int)) then
    (Sw.idx a0 h).bind fun u=>
     (Sw.idx a1 h).bind fun z=>
      bif (!decide (u=z)) then
       some (.done (.ret false))
      else
       some (.next (ar .add .i64 h 1))
   else
    some (.done (.WN ()))
   ) 0 fun (_:Unit)=>
  some true
def fN(a0:Int)(a1:xL):Option ((Int×aQ×Int×Int×Int×eE)×Int×eB):=
 (iQ a0 a1).bind fun D=>
  uT D.1 (
   bif (Option.isSome D.2.2) then
    some ((0,aS,0,0,0,([]:eE)),0,D.2.2)
   else
    lp (β:=Unit) (fun (_:Unit)=>
     lp (β:=Unit) (fun (_:Unit)=>
      none
      ) () fun (_:Unit)=>
     none
     ) () fun (_:Unit)=>
    none
   ) fun h=>
   bif (Option.isSome D.2.2) then
    some ((0,aS,0,0,0,([]:eE)),0,D.2.2)
   else
    lp (β:=Unit) (fun (A:Int×pB×Int×pI×Int×Int×Int×Int×qP×cZ×Int×dN×mH)=>
     lp (β:=pB×Int×pI×Int×Int×Int×Int×qP×cZ×Int×dN×mH) (fun (z:pB×Int×pI×Int×Int×Int×Int×qP×cZ×Int×dN×mH)=>
      bif (cm .gtr (z.2.2.2.2.2.2.2.2.2.2.2.length:Int) 0) then
       (cS 0 h.1 h.2.1 h.2.2.1 h.2.2.2.1 h.2.2.2.2.1 z.1 h.2.2.2.2.2.2.1 z.2.1 z.2.2.1 z.2.2.2.1 z.2.2.2.2.1 z.2.2.2.2.2.2.2.2.1 h.2.2.2.2.2.2.2.2.2.2.2.2.1 z.2.2.2.2.2.1 h.2.2.2.2.2.2.2.2.2.2.2.2.2.2.1 z.2.2.2.2.2.2.1 z.2.2.2.2.2.2.2.1 z.2.2.2.2.2.2.2.2.2.2.2 h.2.2.2.2.2.2.2.2.2.2.2.2.2.2.2.2.2.2.1 h.2.2.2.2.2.2.2.2.2.2.2.2.2.2.2.2.2.2.2.1 z.2.2.2.2.2.2.2.2.2.1 z.2.2.2.2.2.2.2.2.2.2.1).bind fun B=>
        bif (Option.isSome B.1) then
         some (.done (.ret (.done (.ret ((0,aS,0,0,0,([]:eE)),0,B.1)))))
        else
         some (.next (B.2.1,B.2.2.1,B.2.2.2.1,B.2.2.2.2.1,B.2.2.2.2.2.1,B.2.2.2.2.2.2.2.1,B.2.2.2.2.2.2.2.2.1,B.2.2.2.2.2.2.2.2.2.1,B.2.2.2.2.2.2.1,B.2.2.2.2.2.2.2.2.2.2.2.1,B.2.2.2.2.2.2.2.2.2.2.2.2,B.2.2.2.2.2.2.2.2.2.2.1))
      else
       some (.done (.WN (z.1,z.2.1,z.2.2.1,z.2.2.2.1,z.2.2.2.2.1,z.2.2.2.2.2.1,z.2.2.2.2.2.2.1,z.2.2.2.2.2.2.2.1,z.2.2.2.2.2.2.2.2.1,z.2.2.2.2.2.2.2.2.2.1,z.2.2.2.2.2.2.2.2.2.2.1,z.2.2.2.2.2.2.2.2.2.2.2)))
      ) (A.2.1,A.2.2.1,A.2.2.2.1,A.2.2.2.2.1,A.2.2.2.2.2.1,A.2.2.2.2.2.2.1,A.2.2.2.2.2.2.2.1,A.2.2.2.2.2.2.2.2.1,A.2.2.2.2.2.2.2.2.2.1,A.2.2.2.2.2.2.2.2.2.2.1,A.2.2.2.2.2.2.2.2.2.2.2.1,A.2.2.2.2.2.2.2.2.2.2.2.2) fun (u:pB×Int×pI×Int×Int×Int×Int×qP×cZ×Int×dN×mH)=>
     (bif (cm .eql u.2.2.2.2.1 h.2.2.1) then
      some true
     else
      some (cm .eql A.1 200)).bind fun F=>
      bif F then
       (dW (0,aS,0,0,0,([]:eE)) h.1 h.2.1 h.2.2.1 h.2.2.2.1 h.2.2.2.2.1 u.1 h.2.2.2.2.2.2.1 u.2.1 u.2.2.1 u.2.2.2.1 u.2.2.2.2.1 u.2.2.2.2.2.2.2.2.1 h.2.2.2.2.2.2.2.2.2.2.2.2.1 u.2.2.2.2.2.1 h.2.2.2.2.2.2.2.2.2.2.2.2.2.2.1 u.2.2.2.2.2.2.1 u.2.2.2.2.2.2.2.1 u.2.2.2.2.2.2.2.2.2.2.2 h.2.2.2.2.2.2.2.2.2.2.2.2.2.2.2.2.2.2.1 h.2.2.2.2.2.2.2.2.2.2.2.2.2.2.2.2.2.2.2.1 u.2.2.2.2.2.2.2.2.2.1 u.2.2.2.2.2.2.2.2.2.2.1).bind fun E=>
        some (.done (.ret (E.1,A.1,E.2)))
      else
       (dC h.1 h.2.1 h.2.2.1 h.2.2.2.1 h.2.2.2.2.1 u.1 h.2.2.2.2.2.2.1 u.2.1 u.2.2.1 u.2.2.2.1 u.2.2.2.2.1 u.2.2.2.2.2.2.2.2.1 h.2.2.2.2.2.2.2.2.2.2.2.2.1 u.2.2.2.2.2.1 h.2.2.2.2.2.2.2.2.2.2.2.2.2.2.1 u.2.2.2.2.2.2.1 u.2.2.2.2.2.2.2.1 u.2.2.2.2.2.2.2.2.2.2.2 h.2.2.2.2.2.2.2.2.2.2.2.2.2.2.2.2.2.2.1 h.2.2.2.2.2.2.2.2.2.2.2.2.2.2.2.2.2.2.2.1 u.2.2.2.2.2.2.2.2.2.1 u.2.2.2.2.2.2.2.2.2.2.1).bind fun C=>
        bif (Option.isSome C.1) then
         some (.done (.ret ((0,aS,0,0,0,([]:eE)),0,C.1)))
        else
         some (.next ((ar .add .i64 A.1 1),u.1,u.2.1,C.2.1,C.2.2.1,u.2.2.2.2.1,u.2.2.2.2.2.1,u.2.2.2.2.2.2.1,u.2.2.2.2.2.2.2.1,C.2.2.2.1,u.2.2.2.2.2.2.2.2.2.1,u.2.2.2.2.2.2.2.2.2.2.1,C.2.2.2.2))
     ) (0,h.2.2.2.2.2.1,h.2.2.2.2.2.2.2.1,h.2.2.2.2.2.2.2.2.1,h.2.2.2.2.2.2.2.2.2.1,h.2.2.2.2.2.2.2.2.2.2.1,h.2.2.2.2.2.2.2.2.2.2.2.2.2.1,h.2.2.2.2.2.2.2.2.2.2.2.2.2.2.2.1,h.2.2.2.2.2.2.2.2.2.2.2.2.2.2.2.2.1,h.2.2.2.2.2.2.2.2.2.2.2.1,h.2.2.2.2.2.2.2.2.2.2.2.2.2.2.2.2.2.2.2.2.1,h.2.2.2.2.2.2.2.2.2.2.2.2.2.2.2.2.2.2.2.2.2,h.2.2.2.2.2.2.2.2.2.2.2.2.2.2.2.2.2.1) fun (_:Unit)=>
    none
def jK(a0:Int)(a1:xL):Option (Bool):=
 (fN a0 a1).bind fun h=>
  (bif (cm .lss a0 1) then
   some true
  else
   some (cm .gtr a0 32)).bind fun E=>
   jp (fun (B:Int)=>
    bif (cm .neq B 0) then
     ((Mz h.2.2 B).bind fun F=>
      bif F then
       bif (cm .eql h.2.1 0) then
        bif (cm .eql h.1.2.2.1 0) then
         some (cm .eql (h.1.2.2.2.2.2.length:Int) 0)
        else
         some false
       else
        some false
      else
       some false).bind fun G=>
      some G
    else
     (kT a0).bind fun H=>
      uT H (
       lp (β:=Unit) (fun (_:Unit)=>
        bif (cm .lss 0 (a1.length:Int)) then
         none
        else
         some (.done (.WN ()))
        ) () fun (_:Unit)=>
       (bif (Option.isSome h.2.2) then
        some true
       else
        bif (cm .lss h.2.1 0) then
         some true
        else
         bif (cm .gtr h.2.1 3) then
          some true
         else
          bif (cm .neq h.1.1 0) then
           some true
          else
           some (!decide (h.1.2.1=aS))).bind fun I=>
        bif I then
         some false
        else
         none
       ) fun C=>
       lp (β:=eE×(List eE)) (fun (u:Int×eE×(List eE))=>
        bif (cm .lss u.1 (a1.length:Int)) then
         (Sw.idx a1 u.1).bind fun K=>
          (iR u.2.1 u.2.2 K).bind fun D=>
           some (.next ((ar .add .i64 u.1 1),D.2.2.1,D.2.2.2))
        else
         some (.done (.WN (u.2.1,u.2.2)))
        ) (0,C.1,C.2) fun (z:eE×(List eE))=>
       (bif (Option.isSome h.2.2) then
        some true
       else
        bif (cm .lss h.2.1 0) then
         some true
        else
         bif (cm .gtr h.2.1 3) then
          some true
         else
          bif (cm .neq h.1.1 0) then
           some true
          else
           some (!decide (h.1.2.1=aS))).bind fun L=>
        bif L then
         some false
        else
         ((fI z).bind fun M=>
          bif (cm .eql h.1.2.2.1 M) then
           bif (cm .eql h.1.2.2.2.1 h.1.2.2.1) then
            bif (cm .eql h.1.2.2.2.2.1 h.1.2.2.1) then
             (fI z).bind fun N=>
              (Sw.idx z.2 N).bind fun O=>
               (oD h.1.2.2.2.2.2 O).bind fun P=>
                some P
            else
             some false
           else
            some false
          else
           some false).bind fun Q=>
          some Q
    ) fun A=>
   bif E then
    A 1
   else
    bif (cm .gtr (a1.length:Int) 300) then
     A 2
    else
     A 0
end Go.Mo
namespace Go.Mo
open Go Go.Sw
def Dd(a0:(List aQ))(a1:aQ):Option (Int):=
 lp (β:=Unit) (fun (h:Int)=>
  bif (cm .lss h (a0.length:Int)) then
   (Sw.idx a0 h).bind fun u=>
    bif (decide (u=a1)) then
     some (.done (.ret h))
    else
     some (.next (ar .add .i64 h (1:Int)))
  else
   some (.done (.WN ()))
  ) (0:Int) fun (_:Unit)=>
 some (-1:Int)
end Go.Mo
namespace Go.Pl
open Go Go.Sw
def sS{A B D:Type}(g:Nat->A->B->Step B D)(fin:B->D):Nat->B->List A->D
 |_,acc,[]=>fin acc
 |i,acc,x::xs=>match g i x acc with
  | .next h=>sS g fin (i+1) h xs
  | .done d=>d
def Iq{α B D:Type}(st:Nat->B->α)(i:Nat):Step B D->Step α D
 | .next a=> .next (st i a)
 | .done d=> .done d
def out{β γ:Type}(k:β->Option γ):Ex β γ->Option γ
 | .WN y=>k y
 | .ret z=>some z
theorem Qk{α A B D:Type}{step:α->Option (Step α D)}{l:List A}(st:Nat->B->α)(g:Nat->A->B->Step B D)(fin:B->D)
  (hs:∀pre x rest acc,l=pre++x::rest->step (st pre.length acc)=some (Iq st (pre.length+1) (g pre.length x acc)))
  (he:∀acc,step (st l.length acc)=some (.done (fin acc))):
  ∀(rest pre:List A) (acc:B) (f:Nat),l=pre++rest->rest.length<f->loop step f (st pre.length acc)=some (sS g fin pre.length acc rest)
 | [],pre,acc,f,h,u=>by
  obtain⟨f,rfl⟩:∃f',f=f'+1:=⟨f - 1,by simp at u;omega⟩
  have:=he acc;rw[h,Z4] at this;simp[loop,this,sS]
 |x::rest,pre,acc,f,h,u=>by
  obtain⟨f,rfl⟩:∃f',f=f'+1:=⟨f - 1,by simp at u;omega⟩
  have z:=hs pre x rest acc h;simp only[loop,z,sS];cases hg:g pre.length x acc with
  |done d=>rfl
  |next E=>
   have C:=Qk st g fin hs he rest (pre++[x]) E f (by rw[h];simp) (by simp at u;omega);simpa[Iq] using C
theorem Bi{α A B β γ:Type}{step:α->Option (Step α (Ex β γ))}{l:List A}{k:β->Option γ}(st:Nat->B->α)(YW:B)(g:Nat->A->B->Step B (Ex β γ))(fin:B->Ex β γ)(hf:l.length<fO)
  (hs:∀pre x rest acc,l=pre++x::rest->step (st pre.length acc)=some (Iq st (pre.length+1) (g pre.length x acc)))
  (he:∀acc,step (st l.length acc)=some (.done (fin acc))):
  lp step (st 0 YW) k=out k (sS g fin 0 YW l):=by
 have h:=Qk st g fin hs he l [] YW fO rfl hf;unfold lp;simp only[V8] at h;rw[h];cases sS g fin 0 YW l<;>rfl
theorem mX{α:Type}(pre:List α)(x:α)(rest:List α):Sw.idx (pre++x::rest) (pre.length:Int)=some x:=by
 unfold Sw.idx;simp
theorem HS{n m:Nat}(h:n<m)(hm:m<=4611686018427387904):ar .add .i64 (n:Int) 1=((n+1:Nat):Int):=by
 unfold ar;simp only[IntKind.wrap,IntKind.signed,IntKind.bits];simp;omega
theorem pM{α:Type}(pre:List α)(x:α)(rest:List α):cm .lss (pre.length:Int) ((pre++x::rest).length:Int)=true:=by
 unfold cm;simp;omega
theorem dS{n:Nat}:cm .lss (n:Int) (n:Int)=false:=by unfold cm;simp
end Go.Pl
namespace Go.Pl
open Go Go.Sw
theorem Ux{α β γ:Type}{step:α->Option (Step α (Ex β γ))}{k:β->Option γ}(st:Nat->α)(n:Nat)(y:β)(hf:n<fO)(hs:∀i,i<n->step (st i)=some (.next (st (i+1))))(he:step (st n)=some (.done (.WN y))):lp step (st 0) k=k y:=by
 have h:∀m i,i+m=n->∀f,m<f->loop step f (st i)=some (.WN y):=by
  intro m
  induction m with
  |zero=>
   intro i u f hf;obtain⟨f,rfl⟩:∃f',f=f'+1:=⟨f - 1,by omega⟩
   simp only[aDh] at u;subst u;simp[loop,he]
  |succ m z=>
   intro i u f hf;obtain⟨f,rfl⟩:∃f',f=f'+1:=⟨f - 1,by omega⟩
   simp only[loop,hs i (by omega)];exact z (i+1) (by omega) f (by omega)
 unfold lp;rw[h n 0 (by omega) fO hf]
theorem wrap_i64{n:Int}(h: -9223372036854775808<=n/\n<=9223372036854775807):IntKind.wrap .i64 n=n:=Aw (k:= .i64) (by unfold Ea;simp[IntKind.min,IntKind.max,IntKind.signed,IntKind.bits];omega)
theorem Na{n:Int}(h:0<=n/\n<=4294967295):IntKind.wrap .u32 n=n:=Aw (k:= .u32) (by unfold Ea;simp[IntKind.min,IntKind.max,IntKind.signed,IntKind.bits];omega)
theorem rX(w n:Nat):BitVec.ofInt w (n:Int)=BitVec.ofNat w n:=by
 apply BitVec.eq_of_toNat_eq;simp
theorem OQ{a b:Nat}(ha:a<4294967296)(hb:b<4294967296):ar .xor .u32 (a:Int) (b:Int)=((a ^^^ b:Nat):Int):=by
 have h:a ^^^ b<2 ^ 32:=aCc (by simpa using ha) (by simpa using hb);show IntKind.wrap .u32 ((BitVec.ofInt 32 (a:Int) ^^^ BitVec.ofInt 32 (b:Int)).toNat:Int)=_;simp only[rX,aEv,zp];rw[P4 (by simpa using ha),P4 (by simpa using hb)];exact Na (by simp at h;omega)
theorem SA{a:Nat}(ha:a<4294967296):ar .and .u32 (a:Int) 1=((a % 2:Nat):Int):=by
 show IntKind.wrap .u32 ((BitVec.ofInt 32 (a:Int) &&& BitVec.ofInt 32 ((1:Nat):Int)).toNat:Int)=_;simp only[rX,aEw,zp];rw[P4 (a:=a) (by simpa using ha),P4 (a:=1) (by decide),Nat.and_one_is_mod];exact Na (by omega)
theorem SB{a:Nat}(ha:a<2):ar .mul .u32 3988292384 (a:Int)=((if a=1 then 3988292384 else 0:Nat):Int):=by
 have:a=0\/a=1:=by omega
 rcases this with rfl | rfl
 ·rfl
 ·decide
theorem TY{a:Nat}:sh .shr .u32 (a:Int) 1=((a / 2:Nat):Int):=by
 show Int.fdiv _ _=_;have:(2:Int) ^ min (1:Int).toNat (IntKind.bits .u32)=2:=by decide
 rw[this,vt _ (by omega)];omega
theorem SC{a:Nat}(ha:a<4294967296):CM .u32 (a:Int)=((4294967295 - a:Nat):Int):=by
 unfold CM;show IntKind.wrap .u32 ((BitVec.allOnes 32 ^^^ BitVec.ofInt 32 (a:Int)).toNat:Int)=_;simp only[rX,BitVec.allOnes_xor,BitVec.toNat_not,zp];rw[P4 (by simpa using ha)];exact Na (by omega)
theorem Uy{a b:Nat}(h:a*b<=9223372036854775807):ar .mul .i64 (a:Int) (b:Int)=((a*b:Nat):Int):=by
 show IntKind.wrap .i64 _=_;rw[<-Int.natCast_mul];exact wrap_i64 (by omega)
theorem PO{a b:Nat}:cm .lss (a:Int) (b:Int)=decide (a<b):=by unfold cm;simp
theorem MI(a b i:Nat):(a ^^^ b) / 2 ^ i % 2=(a / 2 ^ i+b / 2 ^ i) % 2:=by
 have h:=Nat.testBit_xor a b i;simp only[Nat.testBit_eq_decide_div_mod_eq] at h;have u:=aDq (a / 2 ^ i);have z:=aDq (b / 2 ^ i);have A:=aDq ((a ^^^ b) / 2 ^ i);rw[Nat.add_mod];rcases u with u | u<;>rcases z with z | z<;>rcases A with A | A<;>simp[u,z,A] at h ⊢
end Go.Pl
namespace Go.Pl
open Go Go.Sw
def Bytes(l:List Int):Prop:=∀x∈l,0<=x/\x<=255
def nat(l:List Int):List Nat:=l.map Int.toNat
theorem D2{α A B β γ:Type}{step:α->Option (Step α (Ex β γ))}{l:List A}{k:β->Option γ}(st:Nat->B->α)(I:Nat->B->Prop)(YW:B)(g:Nat->A->B->B)(fin:B->β)(hf:l.length<fO)(h0:I 0 YW)
  (hs:∀pre x rest acc,l=pre++x::rest->I pre.length acc->step (st pre.length acc)=some (.next (st (pre.length+1) (g pre.length x acc)))/\I (pre.length+1) (g pre.length x acc))
  (he:∀acc,I l.length acc->step (st l.length acc)=some (.done (.WN (fin acc)))):
  lp step (st 0 YW) k=k (fin ((l.zipIdx).foldl (fun acc x=>g x.2 x.1 acc) YW)):=by
 have C:∀(rest pre:List A) (acc:B) (f:Nat),l=pre++rest->I pre.length acc->rest.length<f->loop step f (st pre.length acc)=some (.WN (fin ((rest.zipIdx pre.length).foldl (fun acc x=>g x.2 x.1 acc) acc))):=by
  intro rest
  induction rest with
  |nil=>
   intro pre acc f u z hf;obtain⟨f,rfl⟩:∃f',f=f'+1:=⟨f - 1,by simp at hf;omega⟩
   have:=he acc (by rw[u,Z4];exact z);rw[u,Z4] at this;simp[loop,this]
  |cons x rest F=>
   intro pre acc f u z hf;obtain⟨f,rfl⟩:∃f',f=f'+1:=⟨f - 1,by simp at hf;omega⟩
   obtain⟨D,E⟩:=hs pre x rest acc u z;simp only[loop,D];have:=F (pre++[x]) (g pre.length x acc) f (by rw[u];simp) (by simpa using E) (by simp at hf;omega);simpa using this
 have h:=C l [] YW fO rfl h0 hf;unfold lp;simp only[V8] at h;rw[h]
theorem VM{α:Type}(xs ys:List α)(h:xs.length+ys.length<=4294967296):Sw.app xs ys=some (xs++ys):=by unfold Sw.app;rw[WV h]
theorem ZO{A:Type}(w:A->List Int):∀(l:List A) (i:Nat) (acc:List Int),(l.zipIdx i).foldl (fun acc x=>acc++w x.1) acc=acc++l.flatMap w
 | [],_,acc=>by simp
 |x::l,i,acc=>by simp[ZO w l]
end Go.Pl
namespace Go.Pl
open Go Go.Sw
def Wf{α:Type}(e:Wr α)(x:α):Prop:=∃S w cs,e.ok x S w cs
theorem Wf.int{k:IntKind}{n:Int}(h:Wf (Wr.int k) n):Ea k n:=by obtain⟨_,_,_,h⟩:=h;exact h.2
theorem Sh{α:Type}{e:Wr α}{S w}:∀{xs:List α} {cs},e.YY xs S w cs->∀x∈xs,Wf e x
 | [],_,_,x,h=>by simp at h
 |y::ys,_,⟨c,d,_,u,z⟩,x,h=>by
  rcases o6.1 h with rfl | h
  ·exact⟨_,_,_,u⟩
  ·exact Sh z x h
theorem Wf.arr{α:Type}{m:Nat}{e:Wr α}{xs:List α}(h:Wf (Wr.arr m e) xs):xs.length=m/\∀x∈xs,Wf e x:=by
 obtain⟨_,_,_,u,z⟩:=h;exact⟨u,Sh z⟩
theorem Wf.sl{α:Type}{e:Wr α}{xs:List α}(h:Wf (Wr.sl e) xs):xs.length<=140737488355328/\∀x∈xs,Wf e x:=by
 obtain⟨_,_,_,a,C,_,z,A⟩:=h;refine⟨z.2,?_⟩;rcases A with rfl |⟨b,D,E,_,_,_,_,B⟩
 ·intro x u;simp at u
 ·exact Sh B
theorem Wf.pr{α β:Type}{a:Wr α}{b:Wr β}{x:α×β}(h:Wf (Wr.pr a b) x):Wf a x.1/\Wf b x.2:=by
 obtain⟨_,_,_,c,d,_,u,z⟩:=h;exact⟨⟨_,_,_,u⟩,⟨_,_,_,z⟩⟩
theorem Ql{α:Type}{e:Wr α}{x:α}{S w v}(h:e.val x S w v):Wf e x:=by obtain⟨u,h,_⟩:=h;exact⟨_,_,_,h⟩
end Go.Pl
namespace Go.Pl
open Go Go.Sw
theorem cl(m n:Int):cm .lss m n=decide (m<n):=rfl
theorem cg(m n:Int):cm .gtr m n=decide (m>n):=rfl
theorem yy(m n:Int):cm .leq m n=decide (m<=n):=rfl
theorem K0(m n:Int):cm .geq m n=decide (m>=n):=rfl
theorem ce(m n:Int):cm .eql m n=decide (m=n):=by show (m==n)=_;by_cases h:m=n<;>simp[h]
theorem cn(m n:Int):cm .neq m n=decide (m≠n):=by show (m != n)=_;by_cases h:m=n<;>simp[h]
theorem p7{m n:Int}(h: -9223372036854775808<=m+n/\m+n<=9223372036854775807):ar .add .i64 m n=m+n:=wrap_i64 h
theorem N3{m n:Int}(h: -9223372036854775808<=m - n/\m - n<=9223372036854775807):ar .sub .i64 m n=m - n:=wrap_i64 h
theorem r7{n:Nat}(h:n<=4611686018427387904):ar .add .i64 (n:Int) 1=((n+1:Nat):Int):=by rw[p7 (by omega)];push_cast;rfl
theorem PQ{α A β γ:Type}{step:α->Option (Step α (Ex β γ))}{l:List A}{k:β->Option γ}(st:Nat->α)(wO:A->Bool)(z:γ)(y:β)(hf:l.length<fO)
  (hs:∀pre x rest,l=pre++x::rest->step (st pre.length)=some (if wO x then .done (.ret z) else .next (st (pre.length+1)))) (he:step (st l.length)=some (.done (.WN y))):
  lp step (st 0) k=if l.any wO then some z else k y:=by
 have B:∀(rest pre:List A) (f:Nat),l=pre++rest->rest.length<f->loop step f (st pre.length)=some (if rest.any wO then .ret z else .WN y):=by
  intro rest
  induction rest with
  |nil=>
   intro pre f u hf;obtain⟨f,rfl⟩:∃f',f=f'+1:=⟨f - 1,by simp at hf;omega⟩
   rw[Z4] at u;rw[<-u];simp[loop,he]
  |cons x rest C=>
   intro pre f u hf;obtain⟨f,rfl⟩:∃f',f=f'+1:=⟨f - 1,by simp at hf;omega⟩
   simp only[loop,hs pre x rest u,List.any_cons];by_cases h:wO x=true
   ·simp[h]
   ·have:=C (pre++[x]) f (by rw[u];simp) (by simp at hf;omega);simp only[uw] at h;simp only[h,P2,j5,Bool.false_or];simpa using this
 have:=B l [] fO rfl hf;unfold lp;simp only[V8] at this;rw[this];by_cases h:l.any wO=true
 ·simp only[h,l3]
 ·simp only[uw] at h;simp only[h,P2,j5]
theorem Gf{A:Type}{l:List A}{n:Nat}(h:l.length<=n)(hn:n<=140737488355328):l.length<fO:=by unfold fO;omega
theorem kR{A:Type}{l pre rest:List A}{x:A}(h:l=pre++x::rest):cm .lss (pre.length:Int) (l.length:Int)=true:=by rw[h];exact pM pre x rest
theorem kD{A:Type}{l pre rest:List A}{x:A}(h:l=pre++x::rest):Sw.idx l (pre.length:Int)=some x:=by rw[h];exact mX pre x rest
theorem tA{A:Type}{l:List A}{i:Nat}{x:A}(h:l[i]? =some x):Sw.idx l (i:Int)=some x:=by unfold Sw.idx;simp[h]
theorem yP{A:Type}{l:List A}{n:Int}(h0:0<=n)(h1:n<l.length):∃x,Sw.idx l n=some x/\l[n.toNat]? =some x:=by
 have:n.toNat<l.length:=by omega
 exact⟨l[n.toNat],by unfold Sw.idx;simp[h0,this],by simp[this]⟩
theorem DL{A:Type}[DecidableEq A](l:List A)(hl:l.length<=1000000)(k:Unit->Option Bool):
  lp (β:=Unit) (fun (I1:Int)=>bif (cm .lss I1 (l.length:Int)) then (Sw.idx l I1).bind fun pq=>(Sw.idx l I1).bind fun dh=>bif (!decide (pq=dh)) then some (.done (.ret false)) else some (.next (ar .add .i64 I1 (1:Int))) else some (.done (.WN ()))) (0:Int) k=k ():=by
 rw[show (0:Int)=(fun (i:Nat)=>(i:Int)) 0 from rfl];rw[PQ (l:=l) (fun (i:Nat)=>(i:Int)) (fun _=>false) false () (Gf hl (by decide))]
 ·simp
 ·intro u x z h;simp only[kR h,XT,kD h,cM];rw[r7 (by rw[h] at hl;simp at hl;omega)];simp
 ·simp only[dS,pF]
theorem Si{α A β γ:Type}{step:α->Option (Step α (Ex β γ))}{l:List A}{k:β->Option γ}(st:Nat->α)(wO:A->Bool)(z:Nat->γ)(y:β)(hf:l.length<fO)
  (hs:∀pre x rest,l=pre++x::rest->step (st pre.length)=some (if wO x then .done (.ret (z pre.length)) else .next (st (pre.length+1)))) (he:step (st l.length)=some (.done (.WN y))):
  lp step (st 0) k=match l.findIdx? wO with | some j=>some (z j) | none=>k y:=by
 have B:∀(rest pre:List A) (f:Nat),l=pre++rest->rest.length<f->loop step f (st pre.length)=some (match rest.findIdx? wO with | some j=> .ret (z (pre.length+j)) | none=> .WN y):=by
  intro rest
  induction rest with
  |nil=>
   intro pre f h hf;obtain⟨f,rfl⟩:∃f',f=f'+1:=⟨f - 1,by simp at hf;omega⟩
   rw[Z4] at h;rw[<-h];simp[loop,he]
  |cons x rest C=>
   intro pre f h hf;obtain⟨f,rfl⟩:∃f',f=f'+1:=⟨f - 1,by simp at hf;omega⟩
   simp only[loop,hs pre x rest h,List.findIdx?_cons];by_cases u:wO x=true
   ·simp[u]
   ·have:=C (pre++[x]) f (by rw[h];simp) (by simp at hf;omega);simp only[uw] at u;simp only[u,P2,j5];rw[sM,aCw] at this;rw[this];cases rest.findIdx? wO with
    |none=>rfl
    |some j=>simp only[my];congr 3;omega
 have:=B l [] fO rfl hf;unfold lp;simp only[V8,zk] at this;rw[this];cases l.findIdx? wO<;>rfl
theorem Kf{A:Type}(l:List A)(wO:A->Bool):l.any wO=(l.findIdx? wO).isSome:=by
 simp
end Go.Pl
namespace Go.Pl
open Go Go.Sw
def yQ{A B D:Type}(g:B->A->Step B D)(fin:B->D):B->List A->D
 |acc,[]=>fin acc
 |acc,x::xs=>match g acc x with
  | .next h=>yQ g fin h xs
  | .done d=>d
theorem Lj{α A B β γ:Type}{step:α->Option (Step α (Ex β γ))}{l:List A}{k:β->Option γ}(st:Nat->B->α)(I:List A->B->Prop)(g:B->A->Step B (Ex β γ))(fin:B->Ex β γ)(YW:B)(hf:l.length<fO)(h0:I [] YW)
  (hs:∀pre x rest acc,l=pre++x::rest->I pre acc->step (st pre.length acc)=some (Iq st (pre.length+1) (g acc x))/\∀XU,g acc x= .next XU->I (pre++[x]) XU)
  (he:∀acc,I l acc->step (st l.length acc)=some (.done (fin acc))):
  lp step (st 0 YW) k=out k (yQ g fin YW l):=by
 have C:∀(rest pre:List A) (acc:B) (f:Nat),l=pre++rest->I pre acc->rest.length<f->loop step f (st pre.length acc)=some (yQ g fin acc rest):=by
  intro rest
  induction rest with
  |nil=>
   intro pre acc f u z hf;obtain⟨f,rfl⟩:∃f',f=f'+1:=⟨f - 1,by simp at hf;omega⟩
   rw[Z4] at u;subst u;simp[loop,he acc z,yQ]
  |cons x rest F=>
   intro pre acc f u z hf;obtain⟨f,rfl⟩:∃f',f=f'+1:=⟨f - 1,by simp at hf;omega⟩
   obtain⟨D,E⟩:=hs pre x rest acc u z;simp only[loop,D,yQ];cases hg:g acc x with
   |done d=>rfl
   |next XU=>
    have:=F (pre++[x]) XU f (by rw[u];simp) (E XU hg) (by simp at hf;omega);simpa[Iq] using this
 have h:=C l [] YW fO rfl h0 hf;unfold lp;simp only[V8] at h;rw[h];cases yQ g fin YW l<;>rfl
theorem HT{α A B β γ:Type}{step:α->Option (Step α (Ex β γ))}{l:List A}{k:β->Option γ}(st:Nat->B->α)(I:List A->B->Prop)(fin:B->β)(YW:B)(hf:l.length<fO)(h0:I [] YW)
  (hs:∀pre x rest acc,l=pre++x::rest->I pre acc->∃XU,step (st pre.length acc)=some (.next (st (pre.length+1) XU))/\I (pre++[x]) XU)
  (he:∀acc,I l acc->step (st l.length acc)=some (.done (.WN (fin acc)))):∃acc,I l acc/\lp step (st 0 YW) k=k (fin acc):=by
 have D:∀(rest pre:List A) (acc:B) (f:Nat),l=pre++rest->I pre acc->rest.length<f->∃XU,I l XU/\loop step f (st pre.length acc)=some (.WN (fin XU)):=by
  intro rest
  induction rest with
  |nil=>
   intro pre acc f h u hf;obtain⟨f,rfl⟩:∃f',f=f'+1:=⟨f - 1,by simp at hf;omega⟩
   rw[Z4] at h;subst h;exact⟨acc,u,by simp[loop,he acc u]⟩
  |cons x rest H=>
   intro pre acc f h u hf;obtain⟨f,rfl⟩:∃f',f=f'+1:=⟨f - 1,by simp at hf;omega⟩
   obtain⟨XU,C,z⟩:=hs pre x rest acc h u;obtain⟨E,F,G⟩:=H (pre++[x]) XU f (by rw[h];simp) z (by simp at hf;omega);exact⟨E,F,by simp only[loop,C];simpa using G⟩
 obtain⟨acc,C,z⟩:=D l [] YW fO rfl h0 hf;exact⟨acc,C,by unfold lp;simp only[V8] at z;rw[z]⟩
theorem De{α A B β γ:Type}{step:α->Option (Step α (Ex β γ))}{l:List A}{k:β->Option γ}{r:Option γ}(st:Nat->B->α)(I:List A->B->Prop)(fin:B->β)(YW:B)(hf:l.length<fO)(h0:I [] YW)
  (hs:∀pre x rest acc,l=pre++x::rest->I pre acc->∃XU,step (st pre.length acc)=some (.next (st (pre.length+1) XU))/\I (pre++[x]) XU)
  (he:∀acc,I l acc->step (st l.length acc)=some (.done (.WN (fin acc)))) (hr:∀acc,I l acc->k (fin acc)=r):lp step (st 0 YW) k=r:=by
 obtain⟨acc,h,u⟩:=HT (k:=k) st I fin YW hf h0 hs he;rw[u,hr acc h]
theorem MJ{α β γ:Type}{step:α->Option (Step α (Ex β γ))}{k:β->Option γ}(I:α->Prop)(m:α->Nat)(R:β->Prop)(s0:α)(hm:m s0<fO)(h0:I s0)
  (hs:∀s,I s->(∃s',step s=some (.next s')/\I s'/\m s'<m s)\/∃y,step s=some (.done (.WN y))/\R y):∃y,R y/\lp step s0 k=k y:=by
 have A:∀(n:Nat) (s:α) (f:Nat),m s<=n->n<f->I s->∃y,R y/\loop step f s=some (.WN y):=by
  intro n
  induction n with
  |zero=>
   intro s f B C z;obtain⟨f,rfl⟩:∃f',f=f'+1:=⟨f - 1,by omega⟩
   rcases hs s z with⟨s',h,u,F⟩|⟨y,h,u⟩
   ·omega
   ·exact⟨y,u,by simp[loop,h]⟩
  |succ n G=>
   intro s f B C z;obtain⟨f,rfl⟩:∃f',f=f'+1:=⟨f - 1,by omega⟩
   rcases hs s z with⟨s',h,u,F⟩|⟨y,h,u⟩
   ·obtain⟨y,D,E⟩:=G s' f (by omega) (by omega) u;exact⟨y,D,by simp[loop,h,E]⟩
   ·exact⟨y,u,by simp[loop,h]⟩
 obtain⟨y,h,u⟩:=A (m s0) s0 fO (YQ _) hm h0;exact⟨y,h,by unfold lp;rw[u]⟩
theorem UW{i j:Nat}(h:i+j<=4611686018427387904):IntKind.wrap .i64 (sh .shr .u64 (IntKind.wrap .u64 (ar .add .i64 (i:Int) (j:Int))) (1:Int))=(((i+j) / 2:Nat):Int):=by
 rw[p7 (by omega)];have u:IntKind.wrap .u64 ((i:Int)+(j:Int))=(i:Int)+(j:Int):=Aw (k:= .u64) (by unfold Ea;simp[IntKind.min,IntKind.max,IntKind.signed,IntKind.bits];omega);rw[u];have z:sh .shr .u64 ((i:Int)+(j:Int)) 1=(((i+j) / 2:Nat):Int):=by
  show Int.fdiv _ _=_;have:(2:Int) ^ min (1:Int).toNat (IntKind.bits .u64)=2:=by decide
  rw[this,vt _ (by omega)];omega
 rw[z];exact wrap_i64 (by omega)
theorem OR(c:Bool){γ:Type}(x y:Option γ):(bif c then x else y)=if c=true then x else y:=by cases c<;>rfl
end Go.Pl
namespace Go.Pl
open Go Go.Sw Go.Mo
end Go.Pl
namespace Go.YR
open Go.Pl
open Go Go.Sw Go.Mo
abbrev lZ:=List aQ×List (Int×aQ)×Int
def pW(n:Nat)(p:Int×aQ):Bool:=decide (p.1<0) || decide (p.1>=n)
def mY(d:lZ):Int:=if d.1.length<1\/d.1.length>200\/d.2.1.length>800 then 2 else if d.2.1.any (pW d.1.length) then 1 else 0
theorem Uz(x:Int×aQ)(d:lZ):lT x d=some (pW d.1.length x):=by
 unfold lT pW;simp only[cl,K0];by_cases h:x.1<0<;>simp[h]
theorem Pc(l:List (Int×aQ))(d:lZ)(hl:l.length<=1000000):cH l d=some (l.any (pW d.1.length)):=by
 unfold cH dL;have h:=Si (l:=l) (γ:=Int) (β:=Unit) (step:=fun (u:Int)=>bif (cm .lss u (l.length:Int)) then (Sw.idx l u).bind fun z=>(lT z d).bind fun A=>bif A then some (.done (.ret u)) else some (.next (ar .add .i64 u (1:Int))) else some (.done (.WN ()))) (k:=fun _=>some (-1:Int)) (fun (i:Nat)=>(i:Int)) (pW d.1.length) (fun i=>(i:Int)) () (Gf hl (by decide)) ?_ ?_
 ·have B:lp (β:=Unit) (fun (u:Int)=>bif (cm .lss u (l.length:Int)) then (Sw.idx l u).bind fun z=>(lT z d).bind fun A=>bif A then some (.done (.ret u)) else some (.next (ar .add .i64 u (1:Int))) else some (.done (.WN ()))) (0:Int) (fun _=>some (-1:Int))=_:=h;rw[B,Kf];cases hf:l.findIdx? (pW d.1.length) with
  |none=>simp[K0]
  |some j=>simp[K0]
 ·intro C x D h;simp only[kR h,XT,kD h,cM,Uz];by_cases c:pW d.1.length x=true
  ·simp[c]
  ·simp only[uw] at c;simp only[c,pF,P2,j5];rw[r7 (by rw[h] at hl;simp at hl;omega)]
 ·simp only[dS,pF]
theorem wT(d:lZ):mS d=some (if mY d=0 then none else some (mY d)):=by
 unfold mS mY;simp only[cl,cg];by_cases z:d.1.length<1
 ·have:(d.1.length:Int)<1:=by omega
  simp[z,this]
 by_cases A:d.1.length>200
 ·have h:¬(d.1.length:Int)<1:=by omega
  have u:(d.1.length:Int)>200:=by omega
  simp[z,A,h,u]
 by_cases C:d.2.1.length>800
 ·have h:¬(d.1.length:Int)<1:=by omega
  have u:¬(d.1.length:Int)>200:=by omega
  have B:(d.2.1.length:Int)>800:=by omega
  simp[z,A,C,h,u,B]
 have h:¬(d.1.length:Int)<1:=by omega
 have u:¬(d.1.length:Int)>200:=by omega
 have B:¬(d.2.1.length:Int)>800:=by omega
 simp only[h,u,B,z,A,C,F4,pF,cM,aE1,j5];rw[Pc _ _ (by omega)];by_cases c:d.2.1.any (pW d.1.length)=true<;>simp[c]
theorem R7(l:List aQ)(hl:l.length<=1000000):oD l l=some true:=by
 unfold oD;rw[cn];simp only[ne_eq,aE0,F4,pF];exact DL l hl _
end Go.YR
namespace Go.YR
open Go.Pl
open Go Go.Sw Go.Mo
def MK(n:Int):Int:=if n>0 then ar .sub .i64 n 1 else n
theorem BD(s:List aQ)(p:List (Int×aQ))(n:Int):jJ s p n=some (if n=0 then (some 4,s,p,n) else (none,s,p,MK n)):=by
 unfold jJ jp MK;rw[ce,cg];by_cases h:n=0
 ·simp[h]
 ·by_cases q:n>0<;>simp[h,q]
theorem o8(d:lZ)(h1:d.1.length<=1000)(h2:d.2.1.length<=1000):rQ d=some (d.1,d.2.1,d.2.2):=by
 unfold rQ aP bT;rw[VM _ _ (by simp;omega),VM _ _ (by simp;omega)];rfl
def Fl(a:Int)(l:List (Int×aQ))(z:aQ):aQ:=(l.zipIdx).foldl (fun acc x=>if x.1.1=a then x.1.2 else acc) z
theorem zW(a:Int)(z:aQ)(l:List (Int×aQ)):Fl a l z=l.foldl (fun acc p=>if p.1=a then p.2 else acc) z:=by
 unfold Fl;have:∀(l:List (Int×aQ)) (i:Nat) (z:aQ),(l.zipIdx i).foldl (fun acc x=>if x.1.1=a then x.1.2 else acc) z=l.foldl (fun acc p=>if p.1=a then p.2 else acc) z:=by
  intro l
  induction l with
  |nil=>intro i z;rfl
  |cons p l h=>intro i z;simp only[aCk,U6];exact h _ _
 exact this l 0 z
def Gg(a:Int):List (Int×(Int×aQ))->Option aQ
 | []=>none
 |p::l=>if p.2.1=a then some p.2.2 else Gg a l
theorem Qm(a:Int):∀its:List (Int×(Int×aQ)),bk (δ:=aQ) (fun (al:(Int×(Int×aQ))) (_:Unit)=>
  bif (cm .eql al.2.1 a) then
   some (.done al.2.2)
  else
   some (.next ())
  ) its ()=some (match Gg a its with | some b=> .ret b | none=> .WN ())
 | []=>rfl
 |p::l=>by
  simp only[bk,Gg,ce];by_cases h:p.2.1=a
  ·simp[h]
  ·simp only[h,F4,pF,j5];have:=Qm a l;simp only[ce] at this;exact this
theorem Kg(a:Int)(z:aQ):∀its:List (Int×(Int×aQ)),(Gg a its).getD z=(its.map Prod.snd).foldr (fun p acc=>if p.1=a then p.2 else acc) z
 | []=>rfl
 |p::l=>by
  simp only[Gg,D8,List.foldr_cons,<-Kg a z l];by_cases h:p.2.1=a<;>simp[h]
theorem DM{α:Type}(l:List α):(Sw.G6 l).map Prod.snd=l.reverse:=by
 unfold Sw.G6;rw[List.map_reverse,aEy];congr 1;have:∀(l:List α) (i:Nat),(l.zipIdx i).map (Prod.snd∘fun x:α×Nat=>((x.2:Int),x.1))=l:=by
  intro l
  induction l with
  |nil=>intro i;rfl
  |cons x l h=>intro i;simp only[aCk,D8,h];rfl
 exact this l 0
theorem Yh(a:Int)(z:aQ)(l:List (Int×aQ)):(Gg a (Sw.G6 l)).getD z=Fl a l z:=by
 rw[Kg,DM,zW,List.foldr_reverse]
theorem ML(d:lZ)(a:Int)(hl:d.2.1.length<=1000):iT d a=some (if mY d=0 then (if a<0\/a>=d.1.length then (aS,some 1) else if d.2.2=0 then (aS,some 4) else (Fl a d.2.1 (d.1.getD a.toNat []),none)) else (aS,some (mY d))):=by
 unfold iT;rw[wT,cM];by_cases e:mY d=0
 ·simp only[e,l3,ZY,pF,cl,K0];by_cases h:a<0
  ·simp[h]
  by_cases u:a>=d.1.length
  ·simp[h,u]
  simp only[h,u,F4,pF,cM,aE1,j5];rw[ce d.2.2];by_cases z:d.2.2=0
  ·simp[z]
  have A:small d.2.1=some ():=by unfold small;rw[WV (by omega)]
  have B:a.toNat<d.1.length:=by omega
  have C:Sw.idx d.1 a=some (d.1.getD a.toNat []):=by unfold Sw.idx;rw[WV (by omega)];simp[P3,E8 B]
  have D:fS d.2.1=some d.2.1:=rfl;simp only[z,F4,pF,j5,D,cM,A,rg,Qm,C];rw[<-Yh];cases Gg a (Sw.G6 d.2.1)<;>rfl
 ·simp[e]
def zE(d:lZ):List aQ:=(d.2.1.zipIdx).foldl (fun acc x=>acc.set x.1.1.toNat x.1.2) d.1
theorem Yi(d:lZ):(zE d).length=d.1.length:=by
 unfold zE;generalize d.2.1.zipIdx=z;generalize d.1=s
 induction z generalizing s with
 |nil=>rfl
 |cons x z h=>rw[U6,h];simp
theorem SD{d:lZ}(e:mY d=0):∀p∈d.2.1,0<=p.1/\p.1<d.1.length:=by
 unfold mY at e;split at e
 ·cases e
 ·split at e
  ·cases e
  ·rename_i A u;intro p z;have:pW d.1.length p=false:=by
    simp only[uw] at u;exact(aEq.1 u p z) |> fun h=>by simpa using h
   unfold pW at this;simp at this;omega
theorem Yj(d:lZ)(e:mY d=0){p:Int×aQ}(hp:p∈d.2.1){acc:List aQ}(ha:acc.length=d.1.length):∃z,Sw.idx acc p.1=some z:=by
 have:=SD e p hp;have h:p.1.toNat<acc.length:=by omega
 exact⟨acc[p.1.toNat],by unfold Sw.idx;rw[WV this.1,E8 h]⟩
theorem HU(d:lZ)(h1:d.1.length<=1000)(h2:d.2.1.length<=1000):rS d=some (if mY d=0 then (if d.2.2=0 then (([],[],0),some 4) else ((zE d,[],MK d.2.2),none)) else (([],[],0),some (mY d))):=by
 unfold rS;rw[wT,cM];by_cases e:mY d=0
 ·simp only[e,l3,ZY,pF];rw[o8 d h1 h2,cM,BD,cM];by_cases u:d.2.2=0
  ·simp[u]
  simp only[u,j5,ZY,pF];refine(D2 (l:=d.2.1) (fun i (acc:List aQ)=>((i:Int),acc)) (fun _ acc=>acc.length=d.1.length) d.1 (fun _ p acc=>acc.set p.1.toNat p.2) id (Gf h2 (by decide)) rfl ?_ ?_).trans ?_
  ·intro B p E acc h A;have D:B.length<=1000:=by rw[h] at h2;simp at h2;omega
   obtain⟨z,C⟩:=Yj d e (p:=p) (by rw[h];simp) A;refine⟨?_,by simpa using A⟩;simp only[kR h,XT,kD h,cM,C];rw[r7 (by omega)]
  ·intro acc _;simp only[dS,pF];rfl
  ·rfl
 ·simp[e]
theorem HV(d:lZ)(a:Int)(b:aQ)(h1:d.1.length<=1000)(h2:d.2.1.length<=1000):rR d a b=some (if mY d=0 then (if a<0\/a>=d.1.length then (([],[],0),some 1) else if (d.2.1.length:Int)=800 then (([],[],0),some 2) else if d.2.2=0 then (([],[],0),some 4) else ((d.1,d.2.1++[(a,b)],MK d.2.2),none)) else (([],[],0),some (mY d))):=by
 unfold rR;rw[wT,cM];by_cases e:mY d=0
 ·simp only[e,l3,ZY,pF,cl,K0];by_cases h:a<0
  ·simp[h]
  by_cases u:a>=d.1.length
  ·simp[h,u]
  simp only[h,u,F4,pF,cM,aE1,j5];rw[ce];by_cases z:(d.2.1.length:Int)=800
  ·simp[z]
  simp only[z,F4,pF,j5];rw[o8 d h1 h2,cM,BD,cM];by_cases A:d.2.2=0
  ·simp[A]
  simp only[A,j5,ZY,pF];rw[VM _ _ (by simp;omega),cM]
 ·simp[e]
end Go.YR
namespace Go.YR
open Go.Pl
open Go Go.Sw Go.Mo
def upd(f:Nat->aQ)(a:Nat)(b:aQ):Nat->aQ:=fun x=>if x=a then b else f x
structure Vw (m:Nat) (d:lZ) (f:Nat->aQ) (k:Nat):Prop where
 len:d.1.length=m
 B5:1<=m/\m<=200
 left:d.2.2= -1
 uo:d.2.1.length<=k
 lim:k<=800
 bk:∀p∈d.2.1,0<=p.1/\p.1<(m:Int)
 is:∀a,a<m->Fl (a:Int) d.2.1 (d.1.getD a [])=f a
variable {m k:Nat}{d:lZ}{f:Nat->aQ}
theorem Vw.err(h:Vw m d f k):mY d=0:=by
 unfold mY;have B:=h.len;have C:=h.B5;have D:=h.uo;have E:=h.lim;rw[WM (by omega),WM];intro z;obtain⟨p,A,u⟩:=aDf.1 z;have:=h.bk p A;unfold pW at u;simp at u;omega
theorem Vw.read(h:Vw m d f k){a:Int}(h0:0<=a)(h1:a<m):iT d a=some (f a.toNat,none):=by
 have u:=h.uo;have z:=h.lim;have A:=h.len;rw[ML d a (by omega),WV h.err,WM (by omega),WM (by rw[h.left];decide)];have:=h.is a.toNat (by omega);rw[show ((a.toNat:Nat):Int)=a by omega] at this;rw[this]
theorem Yk(a x:Int)(b z:aQ)(l:List (Int×aQ)):Fl a (l++[(x,b)]) z=if x=a then b else Fl a l z:=by
 rw[zW,zW,aC6];rfl
theorem Vw.write(h:Vw m d f k){a:Int}{b:aQ}(h0:0<=a)(h1:a<m)(hk:k<800):
  rR d a b=some ((d.1,d.2.1++[(a,b)],-1),none)/\Vw m (d.1,d.2.1++[(a,b)],-1) (upd f a.toNat b) (k+1):=by
 have C:=h.uo;have D:=h.lim;have z:=h.len;have A:=h.B5;refine⟨?_,⟨z,A,rfl,by simp;omega,by omega,?_,?_⟩⟩
 ·rw[HV d a b (by omega) (by omega),WV h.err,WM (by omega),WM (by omega),WM (by rw[h.left];decide),h.left];rfl
 ·intro p u;rcases K5.1 u with u | u
  ·exact h.bk p u
  ·simp at u;subst u;exact⟨h0,h1⟩
 ·intro x B;show Fl (x:Int) (d.2.1++[(a,b)]) (d.1.getD x [])=_;rw[Yk];unfold upd;by_cases e:x=a.toNat
  ·rw[WV e,WV (by omega)]
  ·rw[WM e,WM (by omega),h.is x B]
theorem Sj(d:lZ):zE d=d.2.1.foldl (fun acc p=>acc.set p.1.toNat p.2) d.1:=by
 unfold zE;have h:∀(l:List (Int×aQ)) (n:Nat) (s:List aQ),(l.zipIdx n).foldl (fun acc x=>acc.set x.1.1.toNat x.1.2) s=l.foldl (fun acc p=>acc.set p.1.toNat p.2) s:=by
  intro l
  induction l with
  |nil=>intro n s;rfl
  |cons p l u=>intro n s;rw[aCk,U6,U6,u]
 exact h _ _ _
theorem DN(a:Nat):∀(l:List (Int×aQ)) (s:List aQ),(∀p∈l,0<=p.1/\p.1<(s.length:Int))->(l.foldl (fun acc p=>acc.set p.1.toNat p.2) s).getD a []=l.foldl (fun acc p=>if p.1=(a:Int) then p.2 else acc) (s.getD a []):=by
 intro l
 induction l with
 |nil=>intro s _;rfl
 |cons p l A=>
  intro s h;have B:=h p Z8;rw[U6,U6,A _ (fun q z=>by rw[aCs];exact h q (Z6 _ z))];congr 1;by_cases e:p.1=(a:Int)
  ·rw[WV e,e];have u:a<s.length:=by omega
   simp[P3,u]
  ·rw[WM e];have:¬p.1.toNat=a:=by omega
   simp[P3,this]
theorem Vw.flush(h:Vw m d f k):rS d=some ((zE d,[],-1),none)/\Vw m (zE d,[],-1) f 0:=by
 have C:=h.uo;have D:=h.lim;have z:=h.len;have A:=h.B5;refine⟨?_,⟨by show (zE d).length=m;rw[Yi,z],A,rfl,YQ _,by omega,fun p u=>by simp at u,?_⟩⟩
 ·rw[HU d (by omega) (by omega),WV h.err,WM (by rw[h.left];decide),h.left];rfl
 ·intro a B;show Fl (a:Int) [] ((zE d).getD a [])=f a;rw[zW];show (zE d).getD a []=f a;rw[Sj,DN a _ _ (fun p u=>by rw[z];exact h.bk p u),<-zW,h.is a B]
theorem Vw.W8(h:Vw m d f k)(n:Int){a:Int}{b:aQ}(h0:0<=a)(h1:a<m)(hk:k<800):
  ∃d',eC n d a b=some (none,n,d')/\Vw m d' (upd f a.toNat b) (k+1):=by
 obtain⟨e,v⟩:=h.write (b:=b) h0 h1 hk;refine⟨_,?_,v⟩;unfold eC;rw[e];rfl
theorem Vw.jd(h:Vw m d f k)(n:Int):∃d',eW n d=some (none,n,d')/\Vw m d' f 0:=by
 obtain⟨e,v⟩:=h.flush;refine⟨_,?_,v⟩;unfold eW;rw[e];rfl
end Go.YR
namespace Go.YR
open Go.Pl
open Go Go.Sw Go.Mo
abbrev MM:=Option Int×Int×lZ
inductive mz {Q:Type} (F:Q->Int->lZ->Option MM) (n:Int):List Q->lZ->lZ->Prop
 |nil {d:lZ}:mz F n [] d d
 |cons {q:Q} {l:List Q} {d d1 d2:lZ}:F q n d=some (none,n,d1)->mz F n l d1 d2->mz F n (q::l) d d2
theorem mz.append{Q:Type}{F:Q->Int->lZ->Option MM}{n:Int}{l l':List Q}{d d1 d2:lZ}(h:mz F n l d d1)(k:mz F n l' d1 d2):mz F n (l++l') d d2:=by
 induction h with
 |nil=>exact k
 |cons e _ u=>exact .cons e (u k)
theorem BE{Q:Type}{F:Q->Int->lZ->Option MM}{n:Int}{xs:List Q}{d d2:lZ}(h:mz F n xs d d2)(hl:xs.length<=100000):
  lp (β:=Int×lZ) (fun (WR:Int×Int×lZ)=>
  bif (cm .lss WR.1 (xs.length:Int)) then
   (Sw.idx xs WR.1).bind fun C6=>
    (F C6 WR.2.1 WR.2.2).bind fun v20=>
     bif (Option.isSome v20.1) then
      some (.done (.ret (v20.1,v20.2.1,v20.2.2)))
     else
      some (.next ((ar .add .i64 WR.1 (1:Int)),v20.2.1,v20.2.2))
  else
   some (.done (.WN (WR.2.1,WR.2.2)))
  ) ((0:Int),n,d) (fun (l7:Int×lZ)=>some ((none:Option Int),l7.1,l7.2))=some (none,n,d2):=by
 generalize YF:(fun (WR:Int×Int×lZ)=>
  bif (cm .lss WR.1 (xs.length:Int)) then
   (Sw.idx xs WR.1).bind fun C6=>
    (F C6 WR.2.1 WR.2.2).bind fun v20=>
     bif (Option.isSome v20.1) then
      some (Step.done (Ex.ret (v20.1,v20.2.1,v20.2.2)))
     else
      some (Step.next ((ar .add .i64 WR.1 (1:Int)),v20.2.1,v20.2.2))
  else
   some (Step.done (Ex.WN (WR.2.1,WR.2.2))))=step
 have E:∀(A u:List Q) (d:lZ) (f:Nat),xs=u++A->mz F n A d d2->A.length<f->loop step f ((u.length:Int),n,d)=some (.WN (n,d2)):=by
  intro A
  induction A with
  |nil=>
   intro u d f z B C;obtain⟨f,rfl⟩:∃f',f=f'+1:=⟨f - 1,by simp at C;omega⟩
   rw[Z4] at z;cases B;have:step ((u.length:Int),n,d2)=some (.done (.WN (n,d2))):=by rw[<-YF,z];simp only[dS,pF]
   simp[loop,this]
  |cons q A H=>
   intro u d f z B C;obtain⟨f,rfl⟩:∃f',f=f'+1:=⟨f - 1,by simp at C;omega⟩
   cases B with
   |cons e B=>
    rename_i D;have:step ((u.length:Int),n,d)=some (.next (((u.length+1:Nat):Int),n,D)):=by
     rw[<-YF];simp only[kR z,XT,kD z,cM,e,ZY,pF];rw[r7 (by rw[z] at hl;simp at hl;omega)]
    have G:=H (u++[q]) D f (by rw[z];simp) B (by simp at C;omega);simp only[loop,this];simpa using G
 have:=E xs [] d fO rfl h (by unfold fO;omega);unfold lp;simp only[V8] at this;rw[show ((0:Int),n,d)=(((0:Nat):Int),n,d) from rfl,this]
variable {m k:Nat}{d:lZ}{f:Nat->aQ}
def RK(b:Int):aQ:=[b]++List.replicate 7 (0:Int)
theorem Vw.aE5(h:Vw m d f k){n:Nat}(hn:n+1<m)(b:Int)(hk:k<800):
  ∃d',fX (n:Int) d b=some (none,(n:Int),d')/\Vw m d' (upd f (n+1) (RK b)) 0:=by
 have D:=h.B5;obtain⟨d1,u,B⟩:=h.W8 (n:Int) (a:=((n+1:Nat):Int)) (b:=RK b) (by omega) (by omega) hk;obtain⟨d2,C,z⟩:=B.jd (n:Int);rw[show (((n+1:Nat):Int)).toNat=n+1 from rfl] at z;refine⟨d2,?_,z⟩;have A:mz lH (n:Int) ([(.inl ((),((),b)):dK),(.inr ((),()):dK)]:(List dK)) d d2:=by
  refine .cons (d1:=d1) ?_ (.cons C .nil);show iU b (n:Int) d=_;unfold iU;rw[r7 (by omega)];unfold RK at u;rw[u];rfl
 unfold fX gK;rw[BE A (by simp)];rfl
end Go.YR
namespace Go.YR
open Go.Pl
open Go Go.Sw Go.Mo
theorem BF(n:Nat):IntKind.wrap .u8 (n:Int)=((n % 256:Nat):Int):=by
 show (Int.emod (n:Int) _)=_;rfl
theorem DO(n c:Nat)(hc:c<=64):sh .shr .i64 (n:Int) (c:Int)=((n / 2 ^ c:Nat):Int):=by
 show Int.fdiv (n:Int) (2 ^ min ((c:Nat):Int).toNat 64)=_;rw[m9,qv hc,vt _ (aEd (aEz (by decide)))];push_cast;rfl
theorem DP{n c:Nat}(hn:n<256)(hc:c<=24):sh .shl .i64 (n:Int) (c:Int)=((n*2 ^ c:Nat):Int):=by
 show IntKind.wrap .i64 ((n:Int)*2 ^ min ((c:Nat):Int).toNat 64)=_;rw[m9,qv (by omega)];have h:2 ^ c<=2 ^ 24:=aEa (by decide) hc;have u:n*2 ^ c<=255*2 ^ 24:=aCt (by omega) h;have e:(n:Int)*2 ^ c=((n*2 ^ c:Nat):Int):=by push_cast;rfl
 rw[e,wrap_i64 (by omega)]
theorem orI{a b:Nat}(ha:a<4611686018427387904)(hb:b<4611686018427387904):ar .or .i64 (a:Int) (b:Int)=((a ||| b:Nat):Int):=by
 have h:a ||| b<2 ^ 62:=aD2 (by simpa using ha) (by simpa using hb)
 show IntKind.wrap .i64 ((BitVec.ofInt 64 (a:Int) ||| BitVec.ofInt 64 (b:Int)).toNat:Int)=_;simp only[rX,BitVec.toNat_or,zp];rw[P4 (a:=a) (by omega),P4 (a:=b) (by omega)];exact wrap_i64 (by omega)
theorem orP{x y c:Nat}(hy:y<2 ^ c):x*2 ^ c ||| y=x*2 ^ c+y:=by
 have:=aEb hy x;rw[Nat.shiftLeft_eq] at this;exact this.symm
def kW(v:Nat):List Int:=[((v / 16777216 % 256:Nat):Int),((v / 65536 % 256:Nat):Int),((v / 256 % 256:Nat):Int),((v % 256:Nat):Int)]
theorem m6(v:Nat):kK (v:Int)=some (kW v++List.replicate 4 (0:Int)):=by
 unfold kK kW;have h:=DO v 24 (by decide);have u:=DO v 16 (by decide);have z:=DO v 8 (by decide);rw[show ((24:Nat):Int)=24 from rfl] at h;rw[show ((16:Nat):Int)=16 from rfl] at u;rw[show ((8:Nat):Int)=8 from rfl] at z;rw[h,u,z,BF,BF,BF,BF]
theorem HW{b3 b2 b1 b0:Nat}(h3:b3<256)(h2:b2<256)(h1:b1<256)(h0:b0<256)(r:List Int):
  gQ ((b3:Int)::(b2:Int)::(b1:Int)::(b0:Int)::r)=some ((b3*16777216+b2*65536+b1*256+b0:Nat):Int):=by
 have A:Sw.idx ((b3:Int)::(b2:Int)::(b1:Int)::(b0:Int)::r) (0:Int)=some (b3:Int):=rfl;have B:Sw.idx ((b3:Int)::(b2:Int)::(b1:Int)::(b0:Int)::r) (1:Int)=some (b2:Int):=rfl;have C:Sw.idx ((b3:Int)::(b2:Int)::(b1:Int)::(b0:Int)::r) (2:Int)=some (b1:Int):=rfl;have D:Sw.idx ((b3:Int)::(b2:Int)::(b1:Int)::(b0:Int)::r) (3:Int)=some (b0:Int):=rfl;unfold gQ;simp only[A,B,C,D,cM];have h:=DP h3 (show 24<=24 by decide);have u:=DP h2 (show 16<=24 by decide);have z:=DP h1 (show 8<=24 by decide);rw[show ((24:Nat):Int)=24 from rfl] at h;rw[show ((16:Nat):Int)=16 from rfl] at u;rw[show ((8:Nat):Int)=8 from rfl] at z;rw[h,u,z,orI (by omega) (by omega)];rw[orP (x:=b3) (c:=24) (y:=b2*2 ^ 16) (by omega),orI (by omega) (by omega)];rw[show b3*2 ^ 24+b2*2 ^ 16=(b3*256+b2)*2 ^ 16 by omega,orP (c:=16) (y:=b1*2 ^ 8) (by omega),orI (by omega) (by omega)];rw[show (b3*256+b2)*2 ^ 16+b1*2 ^ 8=((b3*256+b2)*256+b1)*2 ^ 8 by omega,orP (c:=8) (y:=b0) (by omega)]
 try (congr 2;omega)
theorem En{v:Nat}(h:v<=2147483647)(r:List Int):gQ (kW v++r)=some (v:Int):=by
 show gQ (((v / 16777216 % 256:Nat):Int)::((v / 65536 % 256:Nat):Int)::((v / 256 % 256:Nat):Int)::((v % 256:Nat):Int)::r)=_;rw[HW (by omega) (by omega) (by omega) (by omega)];congr 2;omega
end Go.YR
namespace Go.YR
open Go.Pl
open Go Go.Sw Go.Mo
theorem Yl{α A B β γ:Type}{step:α->Option (Step α (Ex β γ))}{l:List A}{k:β->Option γ}(st:Nat->B->α)(I:List A->B->Prop)(fin:B->β)(YW:B)(hf:l.length<fO)(h0:I [] YW)
  (hs:∀pre x rest acc,l=pre++x::rest->I pre acc->∃XU,step (st pre.length acc)=some (.next (st (pre.length+1) XU))/\I (pre++[x]) XU)
  (he:∀acc,I l acc->step (st l.length acc)=some (.done (.WN (fin acc)))):∃acc,lp step (st 0 YW) k=k (fin acc)/\I l acc:=by
 obtain⟨a,h,u⟩:=HT (k:=k) st I fin YW hf h0 hs he;exact⟨a,u,h⟩
abbrev PR:=List (Nat×aQ)
def Jb(f:Nat->aQ)(l:PR):Nat->aQ:=l.foldl (fun f p=>upd f p.1 p.2) f
theorem Jc(f:Nat->aQ)(l:PR)(p:Nat×aQ):Jb f (l++[p])=upd (Jb f l) p.1 p.2:=by unfold Jb;rw[aC6];rfl
theorem Va(f:Nat->aQ){n:Nat}(l:PR)(h:∀p∈l,p.1<=n){a:Nat}(ha:n<a):Jb f l a=f a:=by
 unfold Jb
 induction l generalizing f with
 |nil=>rfl
 |cons p l z=>
  rw[U6,z _ (fun q u=>h q (Z6 _ u))];have:=h p Z8;unfold upd;rw[WM (by omega)]
variable {m k n:Nat}{d:lZ}{f:Nat->aQ}
structure Laid (n:Nat) (f:Nat->aQ) (l:PR):Prop where
 cnt:∃r,f (n+2)=kW l.length++r
 put:∀i p,l[i]? =some p->(∃r,f (n+3+2*i)=kW p.1++r)/\f (n+4+2*i)=p.2
theorem Vw.aG1(h:Vw m d f k){l:PR}(hl:Laid n f l)(hm:m=3*n+5)(hn:l.length<=n+1)(hp:∀p∈l,p.1<=n)(hk:k+l.length<=800):
  ∃d',gU (n:Int) d=some (none,(n:Int),d')/\Vw m d' (Jb f l) (k+l.length):=by
 have R:=h.B5;unfold gU;have F:ar .add .i64 (n:Int) (2:Int)=((n+2:Nat):Int):=by rw[p7 (by omega)];push_cast;rfl
 rw[F,h.read (by omega) (by omega),cM,m9];obtain⟨M,N⟩:=hl.cnt;have ev:gQ (f (n+2))=some (l.length:Int):=by rw[N];exact En (by omega) M
 refine Yl (l:=l) (fun i d=>((none:Option Int),(i:Int),(n:Int),d)) (fun u d=>Vw m d (Jb f u) (k+u.length)) (fun d=>((none:Option Int),(n:Int),d)) d (Gf (n:=1000) (by omega) (by decide)) h ?_ ?_
 ·intro u p U d z A;have S:u.length<l.length:=by rw[z];simp
  have G:l[u.length]? =some p:=by rw[z];simp
  obtain⟨⟨r,O⟩,P⟩:=hl.put _ _ G;have B:∀q∈u,q.1<=n:=fun q L=>hp q (by rw[z];exact aDo _ L);have T:p.1<=n:=hp p (by rw[z];simp);have H:ar .add .i64 (ar .add .i64 (n:Int) (3:Int)) (ar .mul .i64 (2:Int) (u.length:Int))=((n+3+2*u.length:Nat):Int):=by
   rw[show (2:Int)=((2:Nat):Int) from rfl,Uy (by omega),p7 (m:=(n:Int)) (by omega),p7 (by push_cast;omega)];push_cast;rfl
  have I:ar .add .i64 (ar .add .i64 (n:Int) (4:Int)) (ar .mul .i64 (2:Int) (u.length:Int))=((n+4+2*u.length:Nat):Int):=by
   rw[show (2:Int)=((2:Nat):Int) from rfl,Uy (by omega),p7 (m:=(n:Int)) (by omega),p7 (by push_cast;omega)];push_cast;rfl
  have C:=A.read (a:=((n+3+2*u.length:Nat):Int)) (by omega) (by omega);have D:=A.read (a:=((n+4+2*u.length:Nat):Int)) (by omega) (by omega);rw[m9,Va f u B (by omega),O] at C;rw[m9,Va f u B (by omega),P] at D;have K:gQ (kW p.1++r)=some (p.1:Int):=En (by omega) r;obtain⟨d',Q,E⟩:=A.W8 (n:Int) (a:=(p.1:Int)) (b:=p.2) (by omega) (by omega) (by omega);refine⟨d',?_,?_⟩
  ·simp only[ie,XT,ev,cM,kR z,H,I,C,D,jp,K,Q];rw[r7 (by omega)]
  ·rw[Jc,sM,aCw];rw[m9] at E;exact E
 ·intro d A;simp only[ie,XT,ev,cM,dS,pF]
end Go.YR
namespace Go.YR
open Go.Pl
open Go Go.Sw Go.Mo
variable {m k n:Nat}{d:lZ}{f:Nat->aQ}
theorem Ym(x:Int×aQ)(d:lZ):jD x (some ((n:Int),d))=some (pW n x):=by
 unfold jD pW;rw[cl];by_cases h:x.1<0
 ·simp[h]
 ·simp[h,K0]
theorem Sk(l:List (Int×aQ))(d:lZ)(hl:l.length<=1000000):bX l (some ((n:Int),d))=some (l.any (pW n)):=by
 unfold bX cQ;rw[show (0:Int)=(fun (i:Nat)=>(i:Int)) 0 from rfl];rw[Si (l:=l) (fun (i:Nat)=>(i:Int)) (pW n) (fun i=>(i:Int)) () (Gf hl (by decide))]
 ·rw[Kf];cases h:l.findIdx? (pW n) with
  |none=>simp[K0]
  |some j=>simp[K0]
 ·intro u x z h;simp only[kR h,XT,kD h,cM,Ym];rw[r7 (by rw[h] at hl;simp at hl;omega)];cases pW n x<;>rfl
 ·simp only[dS,pF]
abbrev Nb:=List (Int×aQ)
def UP(i:Nat)(p:Int×aQ):aE:= .inr (.inl ((),((),((i:Int),p))))
def UQ(i:Nat)(p:Int×aQ):aE:= .inr (.inr (.inl ((),((),((i:Int),p)))))
def Bj:Nat->Nb->List aE
 |_,[]=>[]
 |i,p::l=>UP i p::UQ i p::Bj (i+1) l
theorem Vb(p:Int×aQ):∀(l:Nb) (i:Nat),Bj i (l++[p])=Bj i l++[UP (i+l.length) p,UQ (i+l.length) p]:=by
 intro l
 induction l with
 |nil=>intro i;rfl
 |cons q l h=>intro i;simp only[cz,Bj,h,C8];rw[show i+1+l.length=i+(l.length+1) by omega]
theorem Gh:∀(l:Nb) (i:Nat),(Bj i l).length=2*l.length:=by
 intro l
 induction l with
 |nil=>intro i;rfl
 |cons q l h=>intro i;simp only[Bj,C8,h];omega
theorem MN(hm:m=3*n+5)(hn:n<=32):∀(rest:Nb) (i:Nat) (d:lZ) (g:Nat->aQ) (k:Nat),Vw m d g k->(∀p∈rest,0<=p.1/\p.1<=n)->i+rest.length<=n+1->k+2*rest.length<=800->
  ∃d' g',mz iJ (n:Int) (Bj i rest) d d'/\Vw m d' g' (k+2*rest.length)/\(∀x,x<n+3+2*i->g' x=g x)/\
   ∀j p,rest[j]? =some p->(∃r,g' (n+3+2*(i+j))=kW p.1.toNat++r)/\g' (n+4+2*(i+j))=p.2:=by
 intro rest
 induction rest with
 |nil=>intro i d g k h _ _ _;exact⟨d,g,.nil,h,fun _ _=>rfl,fun j p u=>by simp at u⟩
 |cons p rest R=>
  intro i d g k h C I K;have S:=C p Z8;simp only[C8] at I K;obtain⟨d1,M,D⟩:=h.W8 (n:Int) (a:=((n+3+2*i:Nat):Int)) (b:=kW p.1.toNat++List.replicate 4 (0:Int)) (by omega) (by omega) (by omega);obtain⟨E,N,z⟩:=D.W8 (n:Int) (a:=((n+4+2*i:Nat):Int)) (b:=p.2) (by omega) (by omega) (by omega);rw[m9] at D z;rw[m9] at z;obtain⟨d',g',O,P,A,Q⟩:=R (i+1) E _ _ z (fun q L=>C q (Z6 _ L)) (by omega) (by omega);have F:ar .add .i64 (ar .add .i64 (n:Int) (3:Int)) (ar .mul .i64 (2:Int) (i:Int))=((n+3+2*i:Nat):Int):=by
   rw[show (2:Int)=((2:Nat):Int) from rfl,Uy (by omega),p7 (m:=(n:Int)) (by omega),p7 (by push_cast;omega)];push_cast;rfl
  have G:ar .add .i64 (ar .add .i64 (n:Int) (4:Int)) (ar .mul .i64 (2:Int) (i:Int))=((n+4+2*i:Nat):Int):=by
   rw[show (2:Int)=((2:Nat):Int) from rfl,Uy (by omega),p7 (m:=(n:Int)) (by omega),p7 (by push_cast;omega)];push_cast;rfl
  refine⟨d',g',.cons (d1:=d1) ?_ (.cons (d1:=E) ?_ O),by rw[show k+2*(p::rest).length=k+1+1+2*rest.length by simp;omega];exact P,?_,?_⟩
  ·show gY (i:Int) p (n:Int) d=_;unfold gY;have H:p.1=((p.1.toNat:Nat):Int):=by omega
   have B:=m6 p.1.toNat;rw[<-H] at B;rw[B,cM,F,M];rfl
  ·show gZ (i:Int) p (n:Int) d1=_;unfold gZ;rw[G,N];rfl
  ·intro x T;rw[A x (by omega)];unfold upd;rw[WM (by omega),WM (by omega)]
  ·intro j q u;cases j with
   |zero=>
    simp at u;subst u;rw[show i+0=i from rfl,A _ (by omega),A _ (by omega)];unfold upd;rw[WM (by omega),WV rfl,WV rfl];exact⟨⟨_,rfl⟩,rfl⟩
   |succ j=>
    simp at u;have:=Q j q u;rw[show i+(j+1)=i+1+j by omega];exact this
end Go.YR
namespace Go.YR
open Go.Pl
open Go Go.Sw Go.Mo
variable {m k n:Nat}{d:lZ}{f:Nat->aQ}
theorem MO{f g:Nat->aQ}{x:Nat}(l:PR)(h:f x=g x):Jb f l x=Jb g l x:=by
 unfold Jb
 induction l generalizing f g with
 |nil=>exact h
 |cons p l u=>
  rw[U6,U6];apply u;unfold upd;rw[h]
def Df(l:Nb):PR:=l.map (fun p=>(p.1.toNat,p.2))
theorem Hp(v:Nat):(kW v).length=4:=rfl
theorem DQ(h:Vw m d f 0)(hm:m=3*n+5)(iw:1<=n)(hn:n<=32)(YC:Nb){a b:Nat}(hl:YC.length<=n)(hp:∀p∈YC,0<=p.1/\p.1<n)(ha:a<=2147483647)(hb:b<=2147483647):
  ∃d' f',cV (n:Int) d YC (a:Int) (b:Int)=some (none,(n:Int),d')/\Vw m d' f' 0/\(∀x,x<=n->f' x=Jb f (Df (YC++[((n:Int),kW a++kW b)])) x)/\f' (n+1)=RK 0:=by
 have L:YC.any (pW n)=false:=by
  rw[aEq];intro p u;have:=hp p u;unfold pW;simp;omega
 generalize hv:YC++[((n:Int),kW a++kW b)]=g9;have F:g9.length=YC.length+1:=by rw[<-hv];simp
 have G:∀p∈g9,0<=p.1/\p.1<=n:=by
  intro p u;rw[<-hv] at u;rcases K5.1 u with u | u
  ·have:=hp p u;omega
  ·simp at u;subst u;exact⟨by simp,by simp⟩
 have M:ar .add .i64 (n:Int) (2:Int)=((n+2:Nat):Int):=by rw[p7 (by omega)];push_cast;rfl
 obtain⟨d1,s1,I⟩:=h.W8 (n:Int) (a:=((n+2:Nat):Int)) (b:=kW g9.length++List.replicate 4 (0:Int)) (by omega) (by omega) (by omega);rw[m9] at I;obtain⟨d2,g2,r2,w2,K,ab⟩:=MN hm hn g9 0 d1 _ _ I G (by omega) (by omega);obtain⟨d3,s3,v3⟩:=w2.jd (n:Int);obtain⟨d4,s4,v4⟩:=v3.aE5 (n:=n) (by omega) 1 (by omega);have B:(Df g9).length=g9.length:=by unfold Df;simp
 have N:Laid n (upd g2 (n+1) (RK 1)) (Df g9):=by
  constructor
  ·refine⟨List.replicate 4 (0:Int),?_⟩;unfold upd;rw[WM (by omega),K _ (by omega)];unfold upd;rw[WV rfl,B]
  ·intro i p A;unfold Df at A;rw[lf] at A;cases u:g9[i]? with
   |none=>rw[u] at A;cases A
   |some q=>
    rw[u] at A;obtain rfl:=pT A;have:=ab i q u;rw[zk] at this;unfold upd;rw[WM (by omega),WM (by omega)];exact this
 have O:∀p∈Df g9,p.1<=n:=by
  intro p u;unfold Df at u;obtain⟨q,ac,rfl⟩:=bq.1 u;have:=G q ac;show q.1.toNat<=n;omega
 obtain⟨d5,s5,v5⟩:=v4.aG1 N hm (by rw[B];omega) O (by rw[B];omega);obtain⟨d6,s6,v6⟩:=v5.jd (n:Int);obtain⟨d7,s7,v7⟩:=v6.aE5 (n:=n) (by omega) 0 (by omega);refine⟨d7,_,?_,v7,?_,by unfold upd;rw[WV rfl]⟩
 ·unfold cV;rw[cg,cl,cg];rw[ZW (show¬((YC.length:Int)>n) by omega),pF];rw[ZW (show¬(min (a:Int) (b:Int)<0) by omega),pF];rw[ZW (show¬(max (a:Int) (b:Int)>2147483647) by omega),pF];rw[Sk YC d (by omega),L,cM,cM,pF,m6,m6,cM,cM];have P:bT YC=some YC:=by unfold bT;rw[VM _ _ (by simp;omega)];rfl
  have Q:Sw.W7 (kW a++List.replicate 4 (0:Int)) (0:Int) (4:Int) (4:Int)=some (kW a):=by unfold Sw.W7 Sw.sub kW;simp
  have R:Sw.sub (kW b++List.replicate 4 (0:Int)) (0:Int) (4:Int)=some (kW b):=by unfold Sw.sub kW;simp
  have S:Sw.app (kW a) (kW b)=some (kW a++kW b):=VM _ _ (by rw[Hp,Hp];decide);have T:Sw.u1 8 (kW a++kW b)=some (kW a++kW b):=by unfold Sw.u1 kW;simp
  have U:Sw.app YC [((n:Int),kW a++kW b)]=some g9:=by rw[VM _ _ (by simp;omega),hv]
  simp only[P,Q,R,S,T,U,cM];have V:mz iJ (n:Int) (((.inl ((),((),g9)):aE)::Bj 0 g9)++([(.inr (.inr (.inr (.inl ((),())))):aE),(.inr (.inr (.inr (.inr (.inl ((),()))))):aE),(.inr (.inr (.inr (.inr (.inr (.inl ((),())))))):aE),(.inr (.inr (.inr (.inr (.inr (.inr (.inl ((),()))))))):aE),(.inr (.inr (.inr (.inr (.inr (.inr (.inr ((),()))))))):aE)]:(List aE))) d d7:=by
   refine mz.append (d1:=d2) (.cons (d1:=d1) ?_ r2) (.cons s3 (.cons (d1:=d4) ?_ (.cons s5 (.cons s6 (.cons (d1:=d7) ?_ .nil)))))
   ·show gX g9 (n:Int) d=_;unfold gX;rw[m6,cM,M,s1];rfl
   ·show hC (n:Int) d3=_;unfold hC;rw[s4];rfl
   ·show hO (n:Int) d6=_;unfold hO;rw[s7];rfl
  obtain⟨acc,e,rfl⟩:=Yl (step:=fun (z:Int×(List aE))=>
    bif (cm .lss z.1 (g9.length:Int)) then
     (Sw.idx g9 z.1).bind fun H=>
      (Sw.app z.2 ([(.inr (.inl ((),((),(z.1,H)))):aE),(.inr (.inr (.inl ((),((),(z.1,H))))):aE)]:(List aE))).bind fun X=>
       some (Step.next ((ar .add .i64 z.1 (1:Int)),X))
    else
     some (Step.done (Ex.WN (β:=MM) z.2))) (k:=fun (aa:(List aE))=>
    (Sw.app aa ([(.inr (.inr (.inr (.inl ((),())))):aE),(.inr (.inr (.inr (.inr (.inl ((),()))))):aE),(.inr (.inr (.inr (.inr (.inr (.inl ((),())))))):aE),(.inr (.inr (.inr (.inr (.inr (.inr (.inl ((),()))))))):aE),(.inr (.inr (.inr (.inr (.inr (.inr (.inr ((),()))))))):aE)]:(List aE))).bind fun vd=>
     (eS vd (n:Int) d).bind fun C=>
      some (C.1,C.2.1,C.2.2)) (l:=g9) (fun i acc=>((i:Int),acc)) (fun D acc=>acc=(.inl ((),((),g9)):aE)::Bj 0 D) (fun acc=>acc) [(.inl ((),((),g9)):aE)] (Gf (n:=1000) (by omega) (by decide)) rfl (by
    rintro D x ad acc E rfl;have XK:D.length<=1000:=by rw[E] at F;simp at F;omega
    refine⟨_,?_,rfl⟩;simp only[kR E,XT,kD E,cM];rw[VM _ _ (by simp[Gh];omega),cM,r7 (by omega),Vb];rw[zk]
    rfl) (by
    rintro acc rfl
    simp only[dS,pF])
  refine e.trans ?_;rw[VM _ _ (by simp[Gh];omega),cM];unfold eS;rw[BE V (by simp[Gh];omega)];rfl
 ·intro x hx;unfold upd;rw[WM (by omega)];apply MO;rw[WM (by omega),K x (by omega)];unfold upd;rw[WM (by omega)]
end Go.YR
namespace Go.YR
open Go.Pl
open Go Go.Sw Go.Mo
def oG(d:lZ)(blocks:List aQ)(a b:Nat):Prop:=
 ∃f,Vw (3*blocks.length+5) d f 0/\(∀x y,blocks[x]? =some y->f x=y)/\f blocks.length=kW a++kW b/\f (blocks.length+1)=RK 0
variable {d:lZ}{blocks:List aQ}{a b:Nat}
theorem PU(h:oG d blocks a b){x:Nat}{y:aQ}(hx:blocks[x]? =some y):kQ ((blocks.length:Int),d) (x:Int)=some (y,none):=by
 obtain⟨f,v,u,_,_⟩:=h;have z:x<blocks.length:=(aCa.1 hx).1;unfold kQ;rw[cl,ZW (show¬((x:Int)<0) by omega),K0,ZW (show¬((x:Int)>=(blocks.length:Int)) by omega)];show (iT d (x:Int)).bind _=_;rw[v.read (by omega) (by omega),m9,u x y hx];rfl
theorem xN(h:oG d blocks a b):gD ((blocks.length:Int),d)=some (blocks,none):=by
 have B:3*blocks.length+5<=200:=by obtain⟨f,v,_⟩:=h;exact v.B5.2
 unfold gD
 obtain⟨acc,e,rfl⟩:=Yl (step:=fun (u:Int×(List aQ))=>
  bif (cm .lss u.1 (blocks.length:Int)) then
   (kQ ((blocks.length:Int),d) u.1).bind fun z=>
    bif (Option.isSome z.2) then
     some (Step.done (Ex.ret (([]:(List aQ)),z.2)))
    else
     (Sw.app u.2 ([z.1]:(List aQ))).bind fun E=>
      some (Step.next ((ar .add .i64 u.1 (1:Int)),E))
  else
   some (Step.done (Ex.WN u.2))) (k:=fun (F:(List aQ))=>some (F,(none:Option Int))) (l:=blocks) (fun i acc=>((i:Int),acc)) (fun C acc=>acc=C) (fun acc=>acc) [] (Gf (n:=1000) (by omega) (by decide)) rfl (by
   rintro C x H acc A rfl;have G:acc.length<=1000:=by rw[A] at B;simp at B;omega
   refine⟨_,?_,rfl⟩;have D:=PU h (x:=acc.length) (y:=x) (by rw[A];simp);simp only[kR A,XT,D,cM,ZY,pF]
   rw[VM _ _ (by simp;omega),cM,r7 (by omega)]) (by
   rintro acc rfl
   simp only[dS,pF])
 exact e
theorem Yn(h:oG d blocks a b)(ha:a<=2147483647)(hb:b<=2147483647):fY ((blocks.length:Int),d)=some ((a:Int),(b:Int),none):=by
 obtain⟨f,v,_,C,_⟩:=h;unfold fY;show (iT d (blocks.length:Int)).bind _=_;rw[v.read (by omega) (by omega),m9,C];have u:Sw.W7 (kW a++kW b) (4:Int) (8:Int) (8:Int)=some (kW b):=by unfold Sw.W7 Sw.sub kW;simp
 have z:Sw.sub (kW a++kW b) (0:Int) (4:Int)=some (kW a):=by unfold Sw.sub kW;simp
 have A:Sw.app (kW b) (kW a)=some (kW b++kW a):=VM _ _ (by rw[Hp,Hp];decide);have B:Sw.u1 8 (kW b++kW a)=some (kW b++kW a):=by unfold Sw.u1 kW;simp
 simp only[cM,ZY,pF,En ha,En hb,u,z,A,B]
end Go.YR
namespace Go.YR
open Go.Pl
open Go Go.Sw Go.Mo
def Vc(n:Nat)(YC:Nb)(a b:Int):Int:=if YC.length>n then 2 else if a<0\/a>2147483647\/b<0\/b>2147483647 then 1 else if YC.any (pW n) then 1 else 0
def sI(blocks:List aQ)(YC:Nb):List aQ:=YC.foldl (fun acc p=>acc.set p.1.toNat p.2) blocks
theorem Bk(YC:Nb):∀blocks:List aQ,(sI blocks YC).length=blocks.length:=by
 induction YC with
 |nil=>intro b;rfl
 |cons p l h=>intro b;unfold sI at*;rw[U6,h];simp
theorem Yo(YC:Nb):∀(blocks:List aQ) (f:Nat->aQ),(∀p∈YC,0<=p.1/\p.1<(blocks.length:Int))->(∀x y,blocks[x]? =some y->f x=y)->∀x y,(sI blocks YC)[x]? =some y->Jb f (Df YC) x=y:=by
 induction YC with
 |nil=>intro b f _ h;exact h
 |cons p l B=>
  intro b f z h;have C:=z p Z8;unfold sI Df Jb at*;rw[U6,D8,U6];refine B _ _ (fun q A=>by rw[aCs];exact z q (Z6 _ A)) ?_;intro x y u;unfold upd;by_cases e:x=p.1.toNat
  ·subst e;rw[aB1 (by omega)] at u;rw[WV rfl];exact pT u
  ·rw[uv (by omega)] at u;rw[WM e];exact h x y u
variable {d:lZ}{blocks:List aQ}{a b:Nat}
theorem yR(h:oG d blocks a b)(h0:1<=blocks.length)(h1:blocks.length<=32)(YC:Nb)(x y:Int)(hc:Vc blocks.length YC x y=0):
  ∃(d':lZ) (x' y':Nat),x=(x':Int)/\y=(y':Int)/\x'<=2147483647/\y'<=2147483647/\(∀p∈YC,0<=p.1/\p.1<(blocks.length:Int))/\
   cV (blocks.length:Int) d YC x y=some (none,(blocks.length:Int),d')/\oG d' (sI blocks YC) x' y':=by
 unfold Vc at hc;split at hc
 ·cases hc
 rename_i L;split at hc
 ·cases hc
 rename_i M;split at hc
 ·cases hc
 rename_i D;have u:∀p∈YC,0<=p.1/\p.1<(blocks.length:Int):=by
  intro p u;have A:¬pW blocks.length p=true:=fun E=>D (aDf.2 ⟨p,u,E⟩);unfold pW at A;simp at A;omega
 obtain⟨x',rfl⟩:∃x':Nat,x=(x':Int):=⟨x.toNat,by omega⟩
 obtain⟨y',rfl⟩:∃y':Nat,y=(y':Int):=⟨y.toNat,by omega⟩
 obtain⟨f,v,F,N,O⟩:=h;obtain⟨d',G,e,H,C,I⟩:=DQ v rfl h0 h1 YC (a:=x') (b:=y') (by omega) u (by omega) (by omega);refine⟨d',x',y',rfl,rfl,by omega,by omega,u,e,G,by rw[Bk];exact H,?_,?_,by rw[Bk];exact I⟩
 ·intro i z B;have K:i<blocks.length:=by have:=(aCa.1 B).1;rwa [Bk] at this
  rw[C i (by omega)];unfold Df;rw[aCr,D8,aD1,Jc];unfold upd;rw[WM (by simp;omega)];exact Yo YC blocks f u F i z B
 ·rw[Bk,C _ (YQ _)];unfold Df;rw[aCr,D8,aD1,Jc];unfold upd;rw[WV (by simp)]
end Go.YR
namespace Go.YR
open Go.Pl
open Go Go.Sw Go.Mo
theorem BG{n:Nat}(h0:1<=n)(h1:n<=32):rP (n:Int)=some (((3*n+5:Nat):Int),none):=by
 unfold rP;rw[cl,cg,ZW (show¬((n:Int)<1) by omega),ZW (show¬((n:Int)>32) by omega)];have h:ar .add .i64 (n:Int) (1:Int)=((n+1:Nat):Int):=r7 (by omega);have u:ar .mul .i64 (2:Int) ((n+1:Nat):Int)=((2*(n+1):Nat):Int):=by rw[show (2:Int)=((2:Nat):Int) from rfl,Uy (by omega)]
 have z:ar .add .i64 ((n+1:Nat):Int) (2:Int)=((n+1+2:Nat):Int):=by rw[p7 (by omega)];push_cast;rfl
 have A:ar .add .i64 ((n+1+2:Nat):Int) ((2*(n+1):Nat):Int)=((3*n+5:Nat):Int):=by rw[p7 (by omega)];push_cast;omega
 rw[h,u,z,A];rfl
theorem SE{α:Type}(n:Nat)(z:α)(h:n<=1000):Sw.mk (n:Int) z=some (List.replicate n z):=by
 unfold Sw.mk;rw[WV (by omega)];simp
def fresh(n:Nat):lZ:=(List.replicate (3*n+5) aS,[],-1)
theorem DR{n:Nat}(h0:1<=n)(h1:n<=32):qY (n:Int)=some (fresh n,none):=by
 unfold qY;rw[BG h0 h1,cM];show (xM ((3*n+5:Nat):Int)).bind _=_;unfold xM;rw[cl,cg,ZW (show¬(((3*n+5:Nat):Int)<1) by omega),ZW (show¬(((3*n+5:Nat):Int)>200) by omega),SE _ _ (by omega)];rfl
theorem Vw.none{m:Nat}{d:lZ}{f:Nat->aQ}(h:Vw m d f 0):d=(d.1,[],-1):=by
 have u:d.2.1=[]:=ig (by have:=h.uo;omega);have A:=h.left;obtain⟨x,y,z⟩:=d;simp only at u A;subst u;subst A;rfl
theorem Qn{d:lZ}{blocks:List aQ}{a b:Nat}(h:oG d blocks a b)(h0:1<=blocks.length)(h1:blocks.length<=32):mT d (blocks.length:Int)=some (some ((blocks.length:Int),d),none):=by
 obtain⟨f,v,_,_,E⟩:=h;have u:=v.none;have z:=v.len;unfold mT;rw[BG h0 h1,cM];simp only[ZY,pF];rw[wT,cM,WV v.err,cn,cg];have A:d.2.1.length=0:=by rw[u];rfl
 rw[z,A,ZW (fun h=>h rfl)];simp only[ZY,pF];rw[show decide (((0:Nat):Int)>0)=false from rfl,cM,pF];have B:aP d.1=some d.1:=by unfold aP;rw[VM _ _ (by simp;omega)];rfl
 rw[B,cM];have C:(d.1,([]:List (Int×aQ)),d.2.2)=d:=by rw[v.left];exact u.symm
 rw[C];have D:iV (blocks.length:Int) d=some (none,(blocks.length:Int),d):=by
  unfold iV;rw[r7 (by omega),v.read (by omega) (by omega),m9,E];rfl
 rw[D];rfl
theorem MP{d:lZ}{blocks:List aQ}{a b:Nat}(h:oG d blocks a b):lY ((blocks.length:Int),d)=some d:=by
 obtain⟨f,v,_⟩:=h;have u:=v.B5;have z:=v.len;have A:=v.uo;unfold lY aP bT;rw[VM _ _ (by simp;omega),VM _ _ (by simp;omega)];rfl
theorem Nc{n:Nat}(h1:n<=32):oG (fresh n) (List.replicate n aS) 0 0:=by
 refine⟨fun _=>aS,?_,?_,rfl,rfl⟩
 ·rw[pg];refine⟨by unfold fresh;simp,by omega,rfl,YQ _,by decide,fun p u=>by simp[fresh] at u,fun a z=>?_⟩;unfold fresh;show Fl (a:Int) [] ((List.replicate (3*n+5) aS).getD a [])=aS;rw[zW];show (List.replicate (3*n+5) aS).getD a []=aS;simp[P3,z]
 ·intro x y h;rw[aDw] at h;split at h
  ·exact pT h
  ·cases h
end Go.YR
namespace Go.n5
open Go.Pl
open Go Go.Sw Go.Mo
abbrev pN:=Int×aQ
abbrev Ep:=Int×List pN
abbrev Bd:=Int×List pN×List Ep×Bool
def YN(n:Int):Int->List pN->Bool
 |_,[]=>true
 |last,x::l=>if x.1<=last\/x.1>=n then false else YN n x.1 l
def MQ(n:Int)(last:Int)(x:pN):Step Int (Ex Unit Bool):=if x.1<=last\/x.1>=n then .done (.ret false) else .next x.1
theorem BH(n:Int):∀(l:List pN) (last:Int),yQ (MQ n) (fun _=> .WN ()) last l=bif YN n last l then .WN () else .ret false
 | [],_=>rfl
 |x::l,last=>by
  simp only[yQ,MQ,YN];by_cases h:x.1<=last\/x.1>=n
  ·simp only[WV h,pF]
  ·simp only[WM h];exact BH n l x.1
theorem Qo(l:List pN)(n:Int)(hl:l.length<=1000000):lV l n=some (YN n (-1) l):=by
 unfold lV;rw[show ((-1:Int),(0:Int))=(fun (i:Nat) (a:Int)=>(a,(i:Int))) 0 (-1) from rfl];rw[Lj (l:=l) (fun (i:Nat) (a:Int)=>(a,(i:Int))) (fun _ _=>True) (MQ n) (fun _=> .WN ()) (-1) (Gf hl (by decide)) trivial]
 ·rw[BH];cases YN n (-1) l<;>rfl
 ·intro A x B acc h _;refine⟨?_,fun _ _=>trivial⟩;simp only[kR h,XT,kD h,cM,yy,K0,OR,r7 (show A.length<=4611686018427387904 by rw[h] at hl;simp at hl;omega),MQ];by_cases u:x.1<=acc
  ·simp[u,Iq]
  ·by_cases z:x.1>=n
   ·simp[u,z,Iq]
   ·simp[u,z,Iq]
 ·intro acc _;simp only[dS,pF]
def Gi(n base:Int):Int->List Ep->Bool
 |_,[]=>true
 |i,e::l=>if YN n (-1) e.2=true/\e.1=base+i then Gi n base (i+1) l else false
def uH(b:Bd)(n:Int):Int:=
 if n<1\/n>32\/b.1<0\/b.1>2147483647 then 1 else if b.2.2.1.length>4 then 2
 else if YN n (-1) b.2.1=true/\¬(b.2.2.2=true/\b.2.2.1.length>0)/\(b.2.2.1.length:Int)<=b.1/\Gi n (b.1 - b.2.2.1.length+1) 0 b.2.2.1=true then 0 else 3
structure Sm (b:Bd):Prop where
 op:b.2.1.length<=1000000
 se:b.2.2.1.length<=1000000
 ep:∀e∈b.2.2.1,e.2.length<=1000000
theorem zX{A:Type}{l pre rest:List A}{x:A}(h:l=pre++x::rest):x∈l:=by rw[h];simp
end Go.n5
namespace Go.n5
open Go.Pl
open Go Go.Sw Go.Mo
def opt(n:Int):Option Int:=if n=0 then none else some n
def LG(n base:Int):Int->List Ep->Bool
 |_,[]=>true
 |i,e::l=>if YN n (-1) e.2=true/\e.1=base+i/\1<=e.1 then LG n base (i+1) l else false
def SF(n base:Int)(i:Int)(e:Ep):Step Int (Ex Unit (Option Int)):=if YN n (-1) e.2=true/\e.1=base+i/\1<=e.1 then .next (i+1) else .done (.ret (some 3))
theorem HX(n base:Int):∀(l:List Ep) (i:Int),yQ (SF n base) (fun _=> .WN ()) i l=bif LG n base i l then .WN () else .ret (some 3)
 | [],_=>rfl
 |e::l,i=>by
  simp only[yQ,SF,LG];by_cases h:YN n (-1) e.2=true/\e.1=base+i/\1<=e.1
  ·simp only[WV h];exact HX n base l (i+1)
  ·simp only[WM h,pF]
theorem HY(n base:Int)(h:1<=base):∀(l:List Ep) (i:Int),0<=i->LG n base i l=Gi n base i l
 | [],_,_=>rfl
 |e::l,i,A=>by
  simp only[LG,Gi];by_cases u:YN n (-1) e.2=true/\e.1=base+i
  ·rw[WV u,WV ⟨u.1,u.2,by omega⟩];exact HY n base h l (i+1) (by omega)
  ·rw[WM u,WM fun z=>u ⟨z.1,z.2.1⟩]
theorem ZU(b:Bd)(n:Int)(hb:Sm b):lL b n=some (opt (uH b n)):=by
 have H:=hb.se
 have Q:∀V:0<=b.1/\b.1<=2147483647,lp (β:=Unit) (fun (F:Int)=>
          bif (cm .lss F (b.2.2.1.length:Int)) then
           (Sw.idx b.2.2.1 F).bind fun N=>
            ((lV N.2 n).bind fun aa=>
             bif (!aa) then
              some true
             else
              bif (cm .neq N.1 (ar .add .i64 (ar .add .i64 (ar .sub .i64 b.1 (b.2.2.1.length:Int)) (1:Int)) F)) then
               some true
              else
               some (cm .lss N.1 (1:Int))).bind fun ab=>
             bif ab then
              some (.done (.ret (some (3:Int))))
             else
              some (.next (ar .add .i64 F (1:Int)))
          else
           some (.done (.WN ()))
          ) (0:Int) (fun (_:Unit)=>
         some (none:Option Int))=some (bif LG n (b.1 - b.2.2.1.length+1) 0 b.2.2.1 then none else some 3):=by
  intro V;show lp _ ((fun (i:Nat) (_:Int)=>(i:Int)) 0 0) _=_;rw[Lj (l:=b.2.2.1) (fun (i:Nat) (_:Int)=>(i:Int)) (fun B a=>a=(B.length:Int)) (SF n (b.1 - b.2.2.1.length+1)) (fun _=> .WN ()) 0 (Gf H (by decide)) rfl]
  ·rw[HX];cases LG n (b.1 - b.2.2.1.length+1) 0 b.2.2.1<;>rfl
  ·intro B x ac acc h X;subst X;have hp:B.length<=1000000:=by rw[h] at H;simp at H;omega
   refine⟨?_,fun XU G=>?_⟩
   ·simp only[kR h,XT,kD h,cM,Qo x.2 n (hb.ep x (zX h)),OR,r7 (show B.length<=4611686018427387904 by omega),SF,cn,cl];rw[N3 (by omega),p7 (m:=b.1 - (b.2.2.1.length:Int)) (by omega),p7 (by omega)];cases hr:YN n (-1) x.2 with
    |false=>simp[Iq]
    |true=>
     by_cases C:x.1=b.1 - (b.2.2.1.length:Int)+1+(B.length:Int)
     ·by_cases I:x.1<1
      ·have K:¬(1<=x.1):=by omega
       simp[<-C,I,K,Iq]
      ·have K:1<=x.1:=by omega
       simp[<-C,I,K,Iq]
     ·simp[C,Iq]
   ·simp only[SF] at G;split at G
    ·cases G;simp
    ·cases G
  ·intro acc _;simp only[dS,pF]
 unfold lL;simp only[Qo b.2.1 n hb.op,cM];simp only[cl,cg,OR,uH,aC3,opt];by_cases u:n<1
 ·simp[u]
 by_cases z:n>32
 ·simp[u,z]
 by_cases D:b.1<0
 ·simp[u,z,D]
 by_cases L:b.1>2147483647
 ·simp[u,z,D,L]
 have O:=Q ⟨by omega,by omega⟩;simp only[cl,OR,aC3] at O;by_cases P:(b.2.2.1.length:Int)>4
 ·have M:b.2.2.1.length>4:=by omega
  simp[u,z,D,L,P,M]
 have M:¬(b.2.2.1.length>4):=by omega
 simp only[u,z,D,L,P,M,j5,cM,F4,P2,aE1];cases hr:YN n (-1) b.2.1 with
 |false=>simp
 |true=>
  simp only[iz,P2,j5];have R:(b.2.2.1.length:Int)<=b.1->LG n (b.1 - b.2.2.1.length+1) 0 b.2.2.1=Gi n (b.1 - b.2.2.1.length+1) 0 b.2.2.1:=fun h=>HY n _ (by omega) _ 0 (by omega);have S:¬((b.2.2.1.length:Int)<=b.1)->LG n (b.1 - b.2.2.1.length+1) 0 b.2.2.1=false:=fun h=>by
   cases U0:b.2.2.1 with
   |nil=>rw[U0] at h;simp at h;omega
   |cons e l=>
    simp only[LG];rw[WM];rintro⟨_,C,I⟩;rw[U0] at h;omega
  by_cases A:b.2.2.2=true/\b.2.2.1.length>0
  ·have T:(b.2.2.1.length:Int)>0:=by omega
   simp[A.1,A.2,T]
  ·have U:(if b.2.2.2=true then some (decide ((b.2.2.1.length:Int)>0)) else some false:Option Bool)=some false:=by
    cases hbh:b.2.2.2 with
    |false=>simp
    |true=>simp[hbh] at A;simp[A]
   simp only[U,cM,P2,j5,O];by_cases E:(b.2.2.1.length:Int)<=b.1
   ·rw[R E];cases Gi n (b.1 - b.2.2.1.length+1) 0 b.2.2.1<;>simp[E,A]
   ·rw[S E];simp[E]
theorem o8(b:Bd)(hb:Sm b):nE b=some b:=by
 have B:=hb.op;have u:=hb.se;unfold nE gP;have z:∀l:List pN,l.length<=1000000->bT l=some l:=fun l h=>by
  unfold bT;rw[VM [] l (by simp;omega)];rfl
 rw[z _ B,VM [] b.2.2.1 (by simp;omega)];simp only[cM,U7];show lp _ ((fun (i:Nat) (_:Unit)=>((i:Int),b.2.2.1)) 0 ()) _=_;rw[Lj (l:=b.2.2.1) (fun (i:Nat) (_:Unit)=>((i:Int),b.2.2.1)) (fun _ _=>True) (fun _ _=> .next ()) (fun _=> .WN b.2.2.1) () (Gf u (by decide)) trivial]
 ·have:∀l:List Ep,yQ (D:=Ex (List Ep) Bd) (fun (_:Unit) (_:Ep)=>Step.next ()) (fun _=> .WN b.2.2.1) () l= .WN b.2.2.1:=by
   intro l;induction l with
   |nil=>rfl
   |cons x l C=>exact C
  rw[this];rfl
 ·intro A x F acc h _;have E:A.length<=1000000:=by rw[h] at u;simp at u;omega
  refine⟨?_,fun _ _=>trivial⟩;simp only[kR h,XT,kD h,cM,z _ (hb.ep x (zX h)),r7 (show A.length<=4611686018427387904 by omega),Iq,m9];rw[h];simp
 ·intro acc _;simp only[dS,pF]
theorem Eo(n a:Int):∀(l:List pN) (last:Int),YN n last l=true->∃L1 L2,l=L1++L2/\(∀x∈L1,x.1<a)/\(∀x∈L2,a<=x.1)/\(L2.filter fun x=>x.1≠a)=(match L2 with | []=>[] | y::r=>if y.1=a then r else L2)
 | [],_,_=>⟨[],[],rfl,by simp,by simp,rfl⟩
 |x::l,last,h=>by
  simp only[YN] at h;split at h
  ·cases h
  ·by_cases C:x.1<a
   ·obtain⟨L1,L2,rfl,F,G,H⟩:=Eo n a l x.1 h;exact⟨x::L1,L2,rfl,fun y u=>by rcases o6.1 u with rfl | u;exact C;exact F y u,G,H⟩
   ·have D:∀(l:List pN) (last:Int),YN n last l=true->∀y∈l,last<y.1:=by
     intro l
     induction l with
     |nil=>intro _ _ y u;simp at u
     |cons z l I=>
      intro last h y u;simp only[YN] at h;split at h
      ·cases h
      ·rename_i K;rcases o6.1 u with rfl | u
       ·omega
       ·have:=I z.1 h y u;omega
    have A:=D l x.1 h;refine⟨[],x::l,rfl,by simp,fun y u=>by rcases o6.1 u with rfl | u;omega;have:=A y u;omega,?_⟩;have E:(l.filter fun y=>decide (y.1≠a))=l:=aDb.2 fun y u=>by have:=A y u;simp;omega
    simp only[aD4,E];by_cases B:x.1=a
    ·simp[B]
    ·simp[B]
theorem YU(n:Int):∀(l:List pN) (last:Int),YN n last l=true->∀x∈l,last<x.1/\x.1<n
 | [],_,_,x,u=>by simp at u
 |y::l,last,h,x,u=>by
  simp only[YN] at h;split at h
  ·cases h
  ·rename_i z;rcases o6.1 u with rfl | u
   ·omega
   ·have:=YU n l y.1 h x u;omega
theorem Yp(L1 L2:List pN)(a:Int)(h1:∀x∈L1,x.1<a)(h2:∀x∈L2,a<=x.1)(hl:(L1++L2).length<=1000000)(hr:∀x∈L1++L2,-1000000000<=x.1/\x.1<=1000000000)(hab: -1000000000<=a/\a<=1000000000):
  bY (L1++L2) a=some ((L1.length:Int),match L2 with | []=>false | y::_=>decide (y.1=a)):=by
 obtain⟨l,B⟩:∃l,l=L1++L2:=⟨_,rfl⟩
 rw[<-B] at hl hr ⊢;unfold bY sR;have F:l.length=L1.length+L2.length:=by rw[B,sM]
 have G:∀x∈l,ar .sub .i64 x.1 a=x.1 - a:=fun x C=>N3 (by have:=hr x C;omega)
 obtain⟨y,rfl,Q⟩:=MJ (k:=fun (E:Int)=>
 (bif (cm .lss E (l.length:Int)) then
  (Sw.idx l E).bind fun L=>
   (some (ar .sub .i64 L.1 a)).bind fun M=>
    some (cm .eql M (0:Int))
 else
  some false).bind fun N=>
  some (E,N)) (step:=fun (u:Int×Int)=>
  bif (cm .lss u.1 u.2) then
   (Sw.idx l (IntKind.wrap .i64 (sh .shr .u64 (IntKind.wrap .u64 (ar .add .i64 u.1 u.2)) (1:Int)))).bind fun O=>
    (some (ar .sub .i64 O.1 a)).bind fun P=>
     bif (cm .lss P (0:Int)) then
      some (.next ((ar .add .i64 (IntKind.wrap .i64 (sh .shr .u64 (IntKind.wrap .u64 (ar .add .i64 u.1 u.2)) (1:Int))) (1:Int)),u.2))
     else
      some (.next (u.1,(IntKind.wrap .i64 (sh .shr .u64 (IntKind.wrap .u64 (ar .add .i64 u.1 u.2)) (1:Int)))))
  else
   some (.done (.WN u.1))) (fun s=>∃i j:Nat,s=((i:Int),(j:Int))/\i<=L1.length/\L1.length<=j/\j<=l.length) (fun s=>(s.2 - s.1).toNat) (fun y=>y=(L1.length:Int)) ((0:Int),(l.length:Int)) (by unfold fO;simp;omega) ⟨0,l.length,rfl,by omega,by omega,by omega⟩ (by
   rintro s ⟨i,j,rfl,T,U,V⟩;simp only[cl,OR,aC3];by_cases X:i<j
   ·left;have D:(i:Int)<(j:Int):=by omega
    rw[WV D,UW (by omega)];obtain⟨h,R⟩:∃h,h=(i+j) / 2:=⟨_,rfl⟩
    rw[<-R];have aa:h<j:=by omega
    have ab:i<=h:=by omega
    obtain⟨x,S,A⟩:=yP (l:=l) (n:=(h:Int)) (by omega) (by omega);simp only[m9] at A;have H:x∈l:=aB7 A;simp only[S,cM,G x H];rw[B] at A;by_cases C:x.1 - a<0
    ·rw[WV C];have z:h<L1.length:=by
      rcases M3 h L1.length with z | z
      ·exact z
      ·rw[aDp z] at A;have:=h2 x (aB7 A);omega
     refine⟨_,rfl,⟨h+1,j,?_,by omega,U,V⟩,?_⟩
     ·rw[r7 (by omega)]
     ·simp only[r7 (show h<=4611686018427387904 by omega)];omega
    ·rw[WM C];have z:L1.length<=h:=by
      rcases M3 h L1.length with z | z
      ·rw[aBt z] at A;have:=h1 x (aB7 A);omega
      ·exact z
     exact⟨_,rfl,⟨i,h,rfl,T,z,by omega⟩,by simp only;omega⟩
   ·right;have D:¬((i:Int)<(j:Int)):=by omega
    rw[WM D]
    exact⟨_,rfl,by omega⟩)
 rw[Q];simp only[cl,ce,OR,aC3];cases L2 with
 |nil=>
  have:¬((L1.length:Int)<(l.length:Int)):=by simp at F;omega
  rw[WM this];rfl
 |cons y L2=>
  have I:(L1.length:Int)<(l.length:Int):=by simp at F;omega
  rw[WV I,kD B];have K:=G y (by rw[B];simp);simp only[cM,K];congr 3;by_cases h:y.1=a
  ·simp[h]
  ·have:¬(y.1 - a=0):=by omega
   simp[h,this]
def R9(l:List pN)(p:pN):List pN:=(l.takeWhile fun x=>x.1<p.1)++p::(l.dropWhile fun x=>x.1<p.1).filter fun x=>x.1≠p.1
theorem Gj{L1 L2:List pN}{p:pN}(h1:∀x∈L1,x.1<p.1)(h2:∀x∈L2,p.1<=x.1):R9 (L1++L2) p=L1++p::L2.filter fun x=>x.1≠p.1:=by
 unfold R9;have A:∀L1:List pN,(∀x∈L1,x.1<p.1)->(L1++L2).takeWhile (fun x=>decide (x.1<p.1))=L1/\(L1++L2).dropWhile (fun x=>decide (x.1<p.1))=L2:=by
  intro L1
  induction L1 with
  |nil=>
   intro _;cases L2 with
   |nil=>simp
   |cons y L2=>
    have:=h2 y (by simp);have B:¬(y.1<p.1):=by omega
    simp[B]
  |cons x L1 E=>
   intro h;have C:=h x (by simp);obtain⟨u,z⟩:=E fun y D=>h y (by simp[D]);simp[C,u,z]
 obtain⟨u,z⟩:=A L1 h1;rw[u,z]
end Go.n5
namespace Go.n5
open Go.Pl
open Go Go.Sw Go.Mo
def yS:Bd:=(0,[],[],false)
theorem j9{b:Bd}{n:Int}(h:uH b n=0):1<=n/\n<=32/\0<=b.1/\b.1<=2147483647/\b.2.2.1.length<=4/\YN n (-1) b.2.1=true/\¬(b.2.2.2=true/\b.2.2.1.length>0)/\(b.2.2.1.length:Int)<=b.1/\Gi n (b.1 - b.2.2.1.length+1) 0 b.2.2.1=true:=by
 unfold uH at h;split at h
 ·cases h
 ·rename_i z;split at h
  ·cases h
  ·rename_i A;split at h
   ·rename_i u;exact⟨by omega,by omega,by omega,by omega,by omega,u.1,u.2.1,u.2.2.1,u.2.2.2⟩
   ·cases h
theorem Lk{n base:Int}:∀{l:List Ep} {i:Int},Gi n base i l=true->∀e∈l,YN n (-1) e.2=true
 | [],_,_,e,u=>by simp at u
 |x::l,i,h,e,u=>by
  simp only[Gi] at h;split at h
  ·rename_i z;rcases o6.1 u with rfl | u
   ·exact z.1
   ·exact Lk h e u
  ·cases h
theorem uu(b:Bd)(n:Int)(p:pN)(hb:Sm b):tN b n p=some (if uH b n≠0 then (yS,some (uH b n)) else if p.1<0\/p.1>=n then (yS,some 1) else ((b.1,R9 b.2.1 p,b.2.2.1,b.2.2.2),none)):=by
 unfold tN;simp only[ZU b n hb,o8 b hb,cM];by_cases z:uH b n=0
 ·obtain⟨N,O,P,Q,R,E,S,T,U⟩:=j9 z;simp only[opt,z,l3,ZY,pF,ne_eq,aC1,j5];by_cases A:p.1<0
  ·simp[cl,A,yS]
  by_cases B:p.1>=n
  ·simp[cl,K0,A,B,yS]
  obtain⟨u,L2,F,G,H,M⟩:=Eo n p.1 b.2.1 _ E;have C:=YU n b.2.1 _ E;have h:=hb.op;rw[F] at C h;have I:=Yp u L2 p.1 G H h (fun x L=>by have:=C x L;omega) (by omega);rw[WM (by omega)];rw[F,I,Gj G H,M];simp only[cl,K0,A,B,F4,pF,cM,jp];cases L2 with
  |nil=>
   simp only[pF,gL,Sw.ins,Z4];rw[WV ⟨by omega,by omega,by simp at h ⊢;omega⟩];simp
  |cons y L2=>
   by_cases D:y.1=p.1
   ·have K:(u++y::L2).set u.length p=u++p::L2:=by simp
    simp only[D,jb,XT,mX,cM,m9,l3,K]
   ·simp only[D,F4,pF,gL,Sw.ins,j5];rw[WV ⟨by omega,by simp;omega,by simp at h ⊢;omega⟩];simp
 ·simp[opt,z,yS]
theorem MR(b:Bd)(n:Int)(hb:Sm b):rT b n=some (if uH b n≠0 then (yS,some (uH b n)) else if b.1=2147483647 then (yS,some 2) else
  if b.2.2.2=true then ((b.1+1,[],b.2.2.1,b.2.2.2),none) else if b.2.2.1.length=4 then ((b.1+1,[],[],true),none) else ((b.1+1,[],b.2.2.1++[(b.1+1,b.2.1)],b.2.2.2),none)):=by
 unfold rT;simp only[ZU b n hb,o8 b hb,cM];by_cases h:uH b n=0
 ·obtain⟨B,C,D,E,F,G,H,I,K⟩:=j9 h;simp only[opt,h,l3,ZY,pF,ne_eq,aC1,j5,ce];by_cases u:b.1=2147483647
  ·simp[u,yS]
  simp only[u,F4,pF,j5];rw[p7 (by omega)];cases hbh:b.2.2.2 with
  |true=>simp
  |false=>
   by_cases z:b.2.2.1.length=4
   ·simp[z]
   ·have A:¬((b.2.2.1.length:Int)=4):=by omega
    simp only[A,F4,pF,z,j5,P2];rw[VM _ _ (by simp;omega)];rfl
 ·simp[opt,h,yS]
theorem DS(l:List Ep)(num:Int)(hl:l.length<=1000000):bW l num=some (l.filter fun e=>decide (num<e.1)):=by
 have M:cA l num=some (match l.findIdx? (fun e=>decide (e.1<=num)) with | some j=>(j:Int) | none=> -1):=by
  unfold cA;show lp _ ((fun (i:Nat)=>(i:Int)) 0) _=_;rw[Si (l:=l) (fun (i:Nat)=>(i:Int)) (fun e=>decide (e.1<=num)) (fun j=>(j:Int)) () (Gf hl (by decide))]
  ·cases l.findIdx? (fun e=>decide (e.1<=num))<;>rfl
  ·intro u x rest h;have hp:u.length<=1000000:=by rw[h] at hl;simp at hl;omega
   simp only[kR h,XT,kD h,cM,r7 (show u.length<=4611686018427387904 by omega),oC,yy,OR];by_cases E:x.1<=num<;>simp[E]
  ·simp only[dS,pF]
 unfold bW;rw[M];simp only[cM];cases hf:l.findIdx? (fun e=>decide (e.1<=num)) with
 |none=>
  have E:=List.findIdx?_eq_none_iff.1 hf;have:l.filter (fun e=>decide (num<e.1))=l:=aDb.2 fun e F=>by have:=E e F;simp at this ⊢;omega
  simp[ce,this]
 |some j=>
  obtain⟨hj,E,h2⟩:=List.findIdx?_eq_some_iff_getElem.1 hf;obtain⟨P,B,R,rfl,aa⟩:∃P B R,l=P++B::R/\P.length=j:=⟨l.take j,l[j],l.drop (j+1),by rw[List.getElem_cons_drop,U4],by rw[D7];omega⟩
  subst aa;have ab:B.1<=num:=by simpa using E
  have N:∀e∈P,num<e.1:=by
   intro e F;obtain⟨q,L,rfl⟩:=aEc F;have:=h2 q L;rw[aC8 L] at this;simp at this;omega
  have O:P.filter (fun e=>decide (num<e.1))=P:=aDb.2 fun e F=>by simpa using N e F
  have Q:¬((P.length:Int)= -1):=by omega
  simp only[ce,Q,F4,pF];have dt:P.length<=1000000:=by simp at hl;omega
  rw[r7 (by omega)];show lp _ ((fun (t:Nat) (a:Int×List Ep)=>(a.1,((P.length+1+t:Nat):Int),a.2)) 0 ((P.length:Int),P++B::R)) _=_;refine De (l:=R) (fun (t:Nat) (a:Int×List Ep)=>(a.1,((P.length+1+t:Nat):Int),a.2))
   (fun u a=>∃K J:List Ep,K=P++u.filter (fun e=>decide (num<e.1))/\a.1=(K.length:Int)/\a.2=K++J++R.drop u.length/\K.length+J.length=P.length+1+u.length)
   (fun a=>(a.1,a.2)) ((P.length:Int),P++B::R) (by unfold fO;simp at hl;omega) ⟨P,[B],by simp,rfl,by simp,by simp⟩ ?_ ?_ ?_
  ·rintro u x rest ⟨i,xs⟩ h ⟨K,J,C,z,A,D⟩;simp only at z A;subst z A;have ac:R.length=u.length+1+rest.length:=by rw[h];simp;omega
   have G:((P.length+1+u.length:Nat):Int)<((K++J++R.drop u.length).length:Int):=by
    simp only[sM,P5];omega
   have IP:R.drop u.length=x::rest:=by rw[h];simp
   have S:Sw.idx (K++J++R.drop u.length) ((P.length+1+u.length:Nat):Int)=some x:=by
    rw[IP];apply tA;rw[aDp (by rw[sM];omega),sM,D];simp
   have H:R.drop (u++[x]).length=rest:=by rw[h];simp
   simp only[cl,G,jb,XT,S,cM,oC,yy,OR];rw[r7 (show P.length+1+u.length<=4611686018427387904 by simp at hl;omega)];by_cases I:x.1<=num
   ·refine⟨((K.length:Int),K++J++R.drop u.length),by simp[I];omega,K,J++[x],?_,rfl,?_,?_⟩
    ·rw[C,zq];have:¬(num<x.1):=by omega
     simp[this]
    ·simp only;rw[IP,H];simp
    ·simp;omega
   ·have T:J≠ []:=by
     rintro rfl;have:=aCx (fun e:Ep=>decide (num<e.1)) u;rw[C] at D;simp at D;omega
    cases J with
    |nil=>exact absurd rfl T
    |cons y J=>
     have U:Sw.idx (K++y::J++R.drop u.length) (K.length:Int)=some y:=by
      rw[C9];exact mX K y (J++R.drop u.length)
     rw[r7 (show K.length<=4611686018427387904 by
      have:K.length<=P.length+1+u.length:=by omega
      simp at hl;omega)]
     refine⟨(((K.length+1:Nat):Int),K++x::J++R.drop u.length),?_,K++[x],J++[x],?_,by simp,?_,?_⟩
     ·simp only[I,F4,vo,l3,U,cM];simp;omega
     ·rw[C,zq];have:num<x.1:=by omega
      simp[this]
     ·simp only;rw[IP,H];simp
     ·simp at D ⊢;omega
  ·rintro⟨i,xs⟩ ⟨K,J,C,z,A,D⟩;simp only at z A;subst z A;have G:¬(((P.length+1+R.length:Nat):Int)<((K++J++R.drop R.length).length:Int)):=by
    simp only[sM,P5];omega
   simp only[cl,G,F4,pF]
  ·rintro⟨i,xs⟩ ⟨K,J,C,z,A,D⟩;simp only at z A;subst z A;have V:R.drop R.length=[]:=List.drop_length;simp only[V,Z4];have X:Sw.sub (K++J) (K.length:Int) ((K++J).length:Int)=some J:=by
    rw[Sw.sub,WV (by simp only[sM];omega),m9,m9,aDe,qu]
   simp only[X,cM,m9];have e2:List.take K.length (K++J)=K:=by simp
   rw[e2,Sw.sub,WV (by simp only[sM];omega)];simp only[cM,m9,Int.toNat_zero,List.drop_zero,ze,u3];rw[C,zq,O,aD4];have:¬(num<B.1):=by omega
   simp[this]
theorem MS(b:Bd)(n num:Int)(hb:Sm b):pL b n num=some (if uH b n≠0 then (yS,some (uH b n)) else if num<0\/num>b.1 then (yS,some 1) else
  ((b.1,b.2.1,b.2.2.1.filter (fun e=>decide (num<e.1)),if num=b.1 then false else b.2.2.2),none)):=by
 unfold pL;simp only[ZU b n hb,o8 b hb,cM,DS b.2.2.1 num hb.se];by_cases u:uH b n=0
 ·simp only[opt,u,l3,ZY,pF,ne_eq,aC1,j5,ce,cl,cg,jp];by_cases h:num<0
  ·simp[h,yS]
  by_cases z:num>b.1
  ·simp[h,z,yS]
  rw[WM (by omega)];by_cases A:num=b.1
  ·subst A;simp[h]
  ·simp[h,z,A]
 ·simp[opt,u,yS]
def Bl(A:List (Option pN))(p:pN):List (Option pN):=A.set p.1.toNat (some p)
def Rel(A:List (Option pN)):Prop:=∀(k:Nat) (p:pN),A[k]? =some (some p)->p.1=(k:Int)
theorem Rel.set{A:List (Option pN)}{p:pN}(h:Rel A)(hp:0<=p.1):Rel (Bl A p):=by
 intro k q u;unfold Bl at u;by_cases z:p.1.toNat=k
 ·subst z;by_cases B:p.1.toNat<A.length
  ·rw[aB1 B] at u;cases u;omega
  ·rw[Z7 (by rw[aCs];omega)] at u;cases u
 ·rw[uv z] at u;exact h k q u
def pO(A:List (Option pN))(num:Int)(l:List Ep):List (Option pN):=l.foldl (fun A e=>if num<e.1 then e.2.foldl Bl A else A) A
theorem Vd(l:List pN):∀(A:List (Option pN)),(l.foldl Bl A).length=A.length:=by
 induction l with
 |nil=>intro A;rfl
 |cons x l h=>intro A;rw[U6,h];simp[Bl]
theorem Bm(num:Int)(l:List Ep):∀(A:List (Option pN)),(pO A num l).length=A.length:=by
 induction l with
 |nil=>intro A;rfl
 |cons x l h=>
  intro A;unfold pO at h ⊢;rw[U6,h];split
  ·exact Vd _ _
  ·rfl
theorem fz(b:Bd)(n num:Int)(hb:Sm b):nF b n num=some (if uH b n≠0 then ((0,[]),false,some (uH b n)) else if num<0\/num>b.1 then ((0,[]),false,some 1) else
  if b.1 - num>b.2.2.1.length then ((0,[]),false,none) else ((b.1,(pO (List.replicate 32 none) num b.2.2.1).filterMap id),true,none)):=by
 unfold nF;simp only[ZU b n hb,cM];by_cases F:uH b n=0
 ·obtain⟨k1,k2,k3,k4,k5,k6,k7,k8,U⟩:=j9 F;simp only[opt,F,l3,ZY,pF,ne_eq,aC1,j5];by_cases G:num<0
  ·simp[cl,G]
  by_cases M:num>b.1
  ·simp[cl,cg,G,M]
  rw[WM (by omega)];simp only[cl,cg,G,M,F4,pF,cM];rw[N3 (by omega)];by_cases N:b.1 - num>b.2.2.1.length
  ·simp[N]
  simp only[N,F4,pF,j5];have H:=hb.se;show lp _ ((fun (i:Nat) (a:List (Option pN))=>((i:Int),a)) 0 (List.replicate 32 none)) _=_;refine De (l:=b.2.2.1) (fun (i:Nat) (a:List (Option pN))=>((i:Int),a)) (fun u a=>a=pO (List.replicate 32 none) num u) (fun a=>a) (List.replicate 32 none) (Gf H (by decide)) rfl ?_ ?_ ?_
  ·intro u e T acc h C;have P:u.length<=1000000:=by rw[h] at H;simp at H;omega
   have I:=hb.ep e (zX h);have Q:=Lk U e (zX h);have R:=YU n e.2 _ Q;have D:acc.length=32:=by rw[C,Bm];simp
   refine⟨if num<e.1 then e.2.foldl Bl acc else acc,?_,by rw[C];simp[pO]⟩;have K:(u.length:Int)<(b.2.2.1.length:Int):=by rw[h];simp;omega
   simp only[K,jb,XT,kD h,cM];show lp _ ((fun (i:Nat) (a:List (Option pN))=>((i:Int),a)) 0 acc) _=_;refine De (l:=e.2) (fun (i:Nat) (a:List (Option pN))=>((i:Int),a)) (fun u a=>a=if num<e.1 then u.foldl Bl acc else acc) (fun a=>a) acc (Gf I (by decide)) (by simp) ?_ ?_ ?_
   ·intro O x ac B E z;have X:O.length<=1000000:=by rw[E] at I;simp at I;omega
    have S:(O.length:Int)<(e.2.length:Int):=by rw[E];simp;omega
    have aa:=R x (zX E)
    refine⟨if num<e.1 then Bl B x else B,?_,by
     rw[z];by_cases A:num<e.1
     ·simp[A]
     ·simp[A]⟩
    simp only[S,jb,XT,kD E,cM];rw[r7 (by omega)];by_cases A:num<e.1
    ·have L:e.1>num:=A;have ab:B.length=32:=by rw[z,WV A,Vd];exact D
     obtain⟨y,V,_⟩:=yP (l:=B) (n:=x.1) (by omega) (by omega);simp only[L,jb,XT,V,cM,l3,A,Bl]
    ·have L:¬(e.1>num):=A;simp only[L,F4,pF,A,j5]
   ·intro B _;simp
   ·intro B z;rw[r7 (by omega),z]
  ·intro acc _;simp
  ·intro acc C;have D:acc.length=32:=by rw[C,Bm];simp
   rw[<-C];show lp _ ((fun (i:Nat) (a:List pN)=>((i:Int),a)) 0 []) _=_;refine De (l:=acc) (fun (i:Nat) (a:List pN)=>((i:Int),a)) (fun u a=>a=u.filterMap id) (fun a=>a) [] (by unfold fO;omega) rfl ?_ ?_ ?_
   ·intro u x T a h z;have P:u.length<32:=by rw[<-D,h];simp
    have K:(u.length:Int)<32:=by omega
    have Y9:=List.length_filterMap_le id u;simp only[K,jb,XT,kD h,cM];cases x with
    |none=>
     refine⟨a,?_,by rw[z];simp⟩;simp only[ZY,pF];rw[r7 (by omega)]
    |some x=>
     refine⟨a++[x],?_,by rw[z];simp⟩;simp only[aCu,XT,cM];rw[VM _ _ (by rw[z];simp;omega),cM,r7 (by omega)]
   ·intro a _;rw[D];rfl
   ·intro a z;rw[z]
 ·simp[opt,F]
end Go.n5
namespace Go.n5
open Go.Pl
open Go Go.Sw Go.Mo
end Go.n5
namespace Go.n5
open Go.Pl
open Go Go.Sw Go.Mo
theorem Ve{n:Int}{p:pN}(hp:0<=p.1/\p.1<n){l:List pN}(h:YN n (-1) l=true):YN n (-1) (R9 l p)=true:=by
 obtain⟨u,D,rfl,I,K,M⟩:=Eo n p.1 l _ h;rw[Gj I K];have L:∀(u:List pN) (last:Int) (R:List pN),YN n last (u++D)=true->(∀x∈u,x.1<p.1)->last<p.1->(∀C,C<p.1->YN n C D=true->YN n C R=true)->YN n last (u++R)=true:=by
  intro u
  induction u with
  |nil=>intro last R z _ F E;exact E last F z
  |cons x u N=>
   intro last R z G F E;simp only[cz,YN] at z ⊢;split at z
   ·cases z
   ·rename_i H;rw[WM H];exact N x.1 R z (fun y A=>G y (by simp[A])) (G x (by simp)) E
 refine L u (-1) _ h I (by omega) fun C O B=>?_;simp only[YN];rw[WM (by omega),M];cases D with
 |nil=>rfl
 |cons y D=>
  simp only[YN] at B;split at B
  ·cases B
  ·rename_i H;by_cases A:y.1=p.1
   ·simp only[A,l3];rw[<-A];exact B
   ·simp only[A,j5,YN];have:=K y (by simp);rw[WM (by omega)];exact B
theorem Nf{n base:Int}{e:Ep}:∀{l:List Ep} {i:Int},Gi n base i l=true->YN n (-1) e.2=true->e.1=base+i+l.length->Gi n base i (l++[e])=true
 | [],i,_,u,z=>by simp only[U7,Gi];rw[WV ⟨u,by simpa using z⟩]
 |x::l,i,h,u,z=>by
  simp only[cz,Gi] at h ⊢;split at h
  ·rename_i A;rw[WV A];exact Nf h u (by rw[z];simp only[C8];omega)
  ·cases h
theorem Ng{n base num:Int}:∀{l:List Ep} {i:Int},Gi n base i l=true->Gi n (base+(l.length - (l.filter fun e=>decide (num<e.1)).length:Int)) i (l.filter fun e=>decide (num<e.1))=true
 | [],_,_=>by simp[Gi]
 |x::l,i,h=>by
  have E:=h;simp only[Gi] at h;split at h
  ·rename_i H;by_cases C:num<x.1
   ·
    have F:∀{l:List Ep} {j:Int},Gi n base j l=true->num<base+j->∀e∈l,num<e.1:=by
     intro l
     induction l with
     |nil=>intro j _ _ e u;simp at u
     |cons y l A=>
      intro j z I e u;simp only[Gi] at z;split at z
      ·rename_i D;rcases o6.1 u with rfl | u
       ·omega
       ·exact A z (by omega) e u
      ·cases z
    have B:(x::l).filter (fun e=>decide (num<e.1))=x::l:=aDb.2 fun e u=>by
     rcases o6.1 u with rfl | u
     ·simpa using C
     ·have:=F h (by omega) e u;simpa using this
    rw[B];simpa using E
   ·have B:(x::l).filter (fun e=>decide (num<e.1))=l.filter (fun e=>decide (num<e.1)):=by simp[C]
    rw[B];have A:=Ng (num:=num) h;have G:∀{l:List Ep} {b j:Int},Gi n b (j+1) l=true->Gi n (b+1) j l=true:=by
     intro l
     induction l with
     |nil=>intro _ _ _;rfl
     |cons y l A=>
      intro b j z;simp only[Gi] at z ⊢;split at z
      ·rename_i D;rw[WV ⟨D.1,by omega⟩];exact A z
      ·cases z
    have:=G A;have e:base+((l.length:Int) - ((l.filter fun e=>decide (num<e.1)).length:Int))+1=base+(((x::l).length:Int) - ((l.filter fun e=>decide (num<e.1)).length:Int)):=by
     simp only[C8];omega
    rw[e] at this;exact this
  ·cases h
theorem Er{b:Bd}{n:Int}(h1:1<=n/\n<=32)(h2:0<=b.1/\b.1<=2147483647)(h3:b.2.2.1.length<=4)(h4:YN n (-1) b.2.1=true)(h5:¬(b.2.2.2=true/\b.2.2.1.length>0))(h6:(b.2.2.1.length:Int)<=b.1)(h7:Gi n (b.1 - b.2.2.1.length+1) 0 b.2.2.1=true):uH b n=0:=by
 unfold uH;rw[WM (by omega),WM (by omega),WV ⟨h4,h5,h6,h7⟩]
theorem bz{b:Bd}{n:Int}(h:uH b n=0):Sm b:=by
 obtain⟨H,I,K,L,M,C,N,O,D⟩:=j9 h;have A:∀(l:List pN) (last:Int),-1<=last->YN n last l=true->(l.length:Int)<=n - last - 1\/l=[]:=by
  intro l
  induction l with
  |nil=>intro _ _ _;exact .inr rfl
  |cons x l E=>
   intro last F h;simp only[YN] at h;split at h
   ·cases h
   ·rename_i G;left;rcases E x.1 (by omega) h with u | u
    ·simp only[C8];omega
    ·subst u;simp only[C8,V8];omega
 have z:∀l:List pN,YN n (-1) l=true->l.length<=1000000:=fun l h=>by
  rcases A l (-1) (by omega) h with u | u
  ·omega
  ·subst u;simp
 exact⟨z _ C,by omega,fun e B=>z _ (Lk D e B)⟩
theorem MT{b:Bd}{n:Int}{p:pN}(h:uH b n=0)(hp:0<=p.1/\p.1<n):uH (b.1,R9 b.2.1 p,b.2.2.1,b.2.2.2) n=0:=by
 obtain⟨u,z,A,B,C,D,E,F,G⟩:=j9 h;exact Er ⟨u,z⟩ ⟨A,B⟩ C (Ve hp D) E F G
theorem HZ{b:Bd}{n num:Int}(h:uH b n=0)(_hn:0<=num/\num<=b.1):uH (b.1,b.2.1,b.2.2.1.filter (fun e=>decide (num<e.1)),if num=b.1 then false else b.2.2.2) n=0:=by
 obtain⟨A,B,C,D,E,F,G,K,H⟩:=j9 h;have z:=aCx (fun e:Ep=>decide (num<e.1)) b.2.2.1;refine Er ⟨A,B⟩ ⟨C,D⟩ (eh z E) F ?_ (by simp only;omega) ?_
 ·rintro⟨u,I⟩;simp only at u I;split at u
  ·cases u
  ·exact G ⟨u,by omega⟩
 ·have:=Ng (num:=num) H;have e:b.1 - (b.2.2.1.length:Int)+1+((b.2.2.1.length:Int) - ((b.2.2.1.filter fun e=>decide (num<e.1)).length:Int))=b.1 - ((b.2.2.1.filter fun e=>decide (num<e.1)).length:Int)+1:=by omega
  rw[e] at this;exact this
def By(b:Bd):Bd:=if b.2.2.2=true then (b.1+1,[],b.2.2.1,b.2.2.2) else if b.2.2.1.length=4 then (b.1+1,[],[],true) else (b.1+1,[],b.2.2.1++[(b.1+1,b.2.1)],b.2.2.2)
theorem IA{b:Bd}{n:Int}(h:uH b n=0)(hn:b.1<2147483647):uH (By b) n=0:=by
 obtain⟨u,z,F,G,H,D,B,I,E⟩:=j9 h;unfold By;cases hbh:b.2.2.2 with
 |true=>
  have C:b.2.2.1=[]:=ig (by simp[hbh] at B;simp[B]);simp only[l3,C];exact Er ⟨u,z⟩ (by simp only;omega) (by simp) rfl (by simp) (by simp;omega) rfl
 |false=>
  by_cases A:b.2.2.1.length=4
  ·simp only[P2,j5,A,l3];exact Er ⟨u,z⟩ (by simp only;omega) (by simp) rfl (by simp) (by simp;omega) rfl
  ·simp only[P2,j5,A];refine Er ⟨u,z⟩ (by simp only;omega) (by simp;omega) rfl (by simp) (by simp;omega) ?_;have e:b.1+1 - ((b.2.2.1++[(b.1+1,b.2.1)]).length:Int)+1=b.1 - (b.2.2.1.length:Int)+1:=by simp;omega
   simp only;rw[e];exact Nf E D (by simp only;omega)
theorem xa{b:Bd}{n:Int}(h:uH b n=0)(hn:b.1<2147483647):rT b n=some (By b,none):=by
 rw[MR b n (bz h),WM (by omega),WM (by omega)];unfold By;split
 ·rfl
 ·split<;>rfl
theorem aJw{b:Bd}{n:Int}{p:pN}(h:uH b n=0)(hp:0<=p.1/\p.1<n):tN b n p=some ((b.1,R9 b.2.1 p,b.2.2.1,b.2.2.2),none):=by
 rw[uu b n p (bz h),WM (by omega),WM (by omega)]
theorem MU{b:Bd}{n num:Int}(h:uH b n=0)(hn:0<=num/\num<=b.1):pL b n num=some ((b.1,b.2.1,b.2.2.1.filter (fun e=>decide (num<e.1)),if num=b.1 then false else b.2.2.2),none):=by
 rw[MS b n num (bz h),WM (by omega),WM (by omega)]
end Go.n5
namespace Go.n5
open Go.Pl
open Go Go.Sw Go.Mo
def Ll(bs:List aQ)(ps:List pN):List aQ:=ps.foldl (fun bs p=>bs.set p.1.toNat p.2) bs
def Gk(l:List pN)(i:Nat):Option pN:=l.reverse.find? fun q=>q.1==(i:Int)
theorem DT(p:pN)(l:List pN)(i:Nat):Gk (p::l) i=(Gk l i).or (if p.1=(i:Int) then some p else none):=by
 unfold Gk;rw[List.reverse_cons,List.find?_append];congr 1;by_cases h:p.1=(i:Int)
 ·simp[h]
 ·simp[h]
theorem Qp(p:pN)(l:List pN)(i:Nat):Gk (l++[p]) i=if p.1=(i:Int) then some p else Gk l i:=by
 unfold Gk;rw[List.reverse_append];by_cases h:p.1=(i:Int)
 ·simp[h]
 ·simp[h]
theorem Sl:∀(l:List pN) (bs:List aQ) (i:Nat),(∀p∈l,0<=p.1)->(Ll bs l)[i]? =match Gk l i with | some p=>if i<bs.length then some p.2 else none | none=>bs[i]?
 | [],bs,i,_=>rfl
 |p::l,bs,i,h=>by
  have A:=h p (by simp);show (Ll (bs.set p.1.toNat p.2) l)[i]? =_;rw[Sl l _ i fun q z=>h q (by simp[z]),DT];cases hg:Gk l i with
  |some q=>simp[hg]
  |none=>
   simp only[Option.none_or];by_cases u:p.1=(i:Int)
   ·have:p.1.toNat=i:=by omega
    rw[WV u,this,aCq];simp
   ·have:p.1.toNat≠i:=by omega
    rw[WM u,uv this]
theorem Qq{bs:List aQ}{l l':List pN}(h:∀p∈l,0<=p.1)(h':∀p∈l',0<=p.1)(hg:∀i,Gk l i=Gk l' i):Ll bs l=Ll bs l':=by
 apply zj;intro i;rw[Sl l bs i h,Sl l' bs i h',hg i]
theorem DU{n:Int}{l:List pN}{p:pN}(h:YN n (-1) l=true)(i:Nat):Gk (R9 l p) i=Gk (l++[p]) i:=by
 obtain⟨E,A,rfl,C,D,_⟩:=Eo n p.1 l _ h;rw[Gj C D,Qp];unfold Gk;simp only[List.reverse_append,List.reverse_cons,List.find?_append];have B:((A.filter fun x=>decide (x.1≠p.1)).reverse.find? fun q=>q.1==(i:Int))=if p.1=(i:Int) then none else A.reverse.find? fun q=>q.1==(i:Int):=by
  rw[<-List.filter_reverse,List.find?_filter];split
  ·rename_i u;rw[List.find?_eq_none];intro x _;simp;omega
  ·rename_i u;congr 1;funext x;by_cases z:x.1=(i:Int)
   ·have:x.1≠p.1:=by omega
    simp[z];omega
   ·simp[z]
 rw[B];by_cases u:p.1=(i:Int)
 ·simp[u]
 ·simp[u]
def SG(A:List (Option pN))(i:Nat):Option pN:=(A[i]?).join
theorem Vf{A:List (Option pN)}(h:Rel A)(i:Nat):Gk (A.filterMap id) i=SG A i:=by
 unfold Gk SG;have E:∀q,(A.filterMap id).reverse.find? (fun q=>q.1==(i:Int))=some q->(A[i]?).join=some q:=by
  intro q u;have F:=List.find?_some u;have z:=List.mem_of_find?_eq_some u;rw[List.mem_reverse,aDi] at z;obtain⟨o,G,D⟩:=z;simp only[id_eq] at D;subst D;obtain⟨j,H,I⟩:=aEc G;have B:A[j]? =some (some q):=by rw[E8 H,I]
  have C:=h j q B;have:j=i:=by simp at F;omega
  subst this;rw[B];rfl
 cases u:(A.filterMap id).reverse.find? (fun q=>q.1==(i:Int)) with
 |some q=>rw[E q u]
 |none=>
  rw[List.find?_eq_none] at u;cases hA:A[i]? with
  |none=>rfl
  |some o=>
   cases o with
   |none=>rfl
   |some q=>
    have C:=h i q hA;exfalso;refine u q ?_ (by simp[C]);rw[List.mem_reverse,aDi];exact⟨some q,aB7 hA,rfl⟩
theorem MV{A:List (Option pN)}{p:pN}(h:p∈A.filterMap id):∃j:Nat,A[j]? =some (some p):=by
 obtain⟨o,z,u⟩:=aDi.1 h;simp only[id_eq] at u;subst u;obtain⟨j,B,C⟩:=aEc z;exact⟨j,by rw[E8 B,C]⟩
theorem Nh{A:List (Option pN)}(h:Rel A){p:pN}(hp:p∈A.filterMap id):0<=p.1/\p.1<(A.length:Int):=by
 obtain⟨j,u⟩:=MV hp;have:=h j p u;have z:=(aCa.1 u).1;omega
theorem MW{A:List (Option pN)}{p:pN}(h0:0<=p.1)(hl:p.1<(A.length:Int))(i:Nat):SG (Bl A p) i=if p.1=(i:Int) then some p else SG A i:=by
 unfold SG Bl;by_cases h:p.1=(i:Int)
 ·have:p.1.toNat=i:=by omega
  rw[WV h,this,aCq];have:i<A.length:=by omega
  simp[this]
 ·have:p.1.toNat≠i:=by omega
  rw[WM h,uv this]
theorem Vg{bs:List aQ}:∀(ps:List pN) {A:List (Option pN)},Rel A->(∀p∈ps,0<=p.1/\p.1<(A.length:Int))->Ll bs ((ps.foldl Bl A).filterMap id)=Ll (Ll bs (A.filterMap id)) ps/\Rel (ps.foldl Bl A)
 | [],_,h,_=>⟨rfl,h⟩
 |p::ps,A,h,C=>by
  have z:=C p (by simp);have B:=h.set z.1;obtain⟨D,E⟩:=Vg (bs:=bs) ps B fun q u=>by rw[show (Bl A p).length=A.length from aCs];exact C q (by simp[u])
  refine⟨?_,E⟩;show Ll bs ((ps.foldl Bl (Bl A p)).filterMap id)=Ll ((Ll bs (A.filterMap id)).set p.1.toNat p.2) ps;rw[D];congr 1;have:(Ll bs (A.filterMap id)).set p.1.toNat p.2=Ll bs (A.filterMap id++[p]):=by unfold Ll;rw[aC6];rfl
  rw[this];refine Qq (fun q u=>(Nh B u).1) (fun q u=>?_) fun i=>?_
  ·rcases K5.1 u with u | u
   ·exact(Nh h u).1
   ·simp at u;subst u;exact z.1
  ·rw[Vf B,MW z.1 z.2,Qp,Vf h]
def BI(snaps:List (List aQ))(l:List Ep):Prop:=∀e∈l,1<=e.1/\Ll (snaps.getD (e.1 - 1).toNat []) e.2=snaps.getD e.1.toNat []
theorem Vh{n base k:Int}{snaps:List (List aQ)}(hn:n<=32)(hk:base - 1<=k)(hb:1<=base):∀(l:List Ep),Gi n base 0 l=true->BI snaps l->
  Ll (snaps.getD k.toNat []) ((pO (List.replicate 32 none) k l).filterMap id)=snaps.getD (max k (base+l.length - 1)).toNat []/\Rel (pO (List.replicate 32 none) k l):=by
 have I:∀(l:List Ep) (i:Int) (e:Ep),Gi n base i (l++[e])=true->Gi n base i l=true/\YN n (-1) e.2=true/\e.1=base+i+l.length:=by
  intro l
  induction l with
  |nil=>
   intro i e h;simp only[U7,Gi] at h;split at h
   ·rename_i u;exact⟨rfl,u.1,by simpa using u.2⟩
   ·cases h
  |cons x l F=>
   intro i e h;simp only[cz,Gi] at h ⊢;split at h
   ·rename_i u;obtain⟨A,B,T⟩:=F (i+1) e h;rw[WV u];exact⟨A,B,by rw[T];simp only[C8];omega⟩
   ·cases h
 have K:∀(m:Nat) (l:List Ep),l.length=m->Gi n base 0 l=true->BI snaps l->
  Ll (snaps.getD k.toNat []) ((pO (List.replicate 32 none) k l).filterMap id)=snaps.getD (max k (base+l.length - 1)).toNat []/\Rel (pO (List.replicate 32 none) k l):=by
  intro m
  induction m with
  |zero=>
   intro l z _ _;have:=ig z;subst this;refine⟨?_,fun j p E=>?_⟩
   ·have:(pO (List.replicate 32 (none:Option pN)) k []).filterMap id=[]:=by simp[pO,List.filterMap_replicate]
    rw[this];have:max k (base+(([]:List Ep).length:Int) - 1)=k:=by simp only[V8];omega
    rw[this];rfl
   ·simp only[pO,List.foldl_nil,aDw] at E;split at E<;>cases E
  |succ m F=>
   intro l z H C;rcases List.eq_nil_or_concat l with rfl |⟨q,e,rfl⟩
   ·simp at z
   rw[List.concat_eq_append] at z H C ⊢;obtain⟨u,D,h3⟩:=I q 0 e H;obtain⟨A,B⟩:=F q (by simp at z;exact z) u fun Q R=>C Q (by simp[R]);obtain⟨c1,U⟩:=C e (by simp);have L:((q++[e]).length:Int)=q.length+1:=by simp
   have M:pO (List.replicate 32 none) k (q++[e])=if k<e.1 then e.2.foldl Bl (pO (List.replicate 32 none) k q) else pO (List.replicate 32 none) k q:=by simp[pO]
   rw[M,L];by_cases G:k<e.1
   ·rw[WV G];have N:=YU n e.2 _ D;have aa:(pO (List.replicate 32 (none:Option pN)) k q).length=32:=by rw[Bm];simp
    obtain⟨V,X⟩:=Vg (bs:=snaps.getD k.toNat []) e.2 B fun p S=>by have:=N p S;omega
    refine⟨?_,X⟩;rw[V,A];have O:max k (base+(q.length:Int) - 1)=e.1 - 1:=by omega
    have P:max k (base+((q.length:Int)+1) - 1)=e.1:=by omega
    rw[O,P,U]
   ·rw[WM G];refine⟨?_,B⟩;rw[A];congr 2;omega
 intro l u D;exact K l.length l rfl u D
theorem uI{A:Type}{l:List A}{x d:A}{i:Nat}(h:i<l.length):(l++[x]).getD i d=l.getD i d:=by
 rw[P3,P3,aBt h]
theorem Es{A:Type}{l:List A}{x d:A}{i:Nat}(h:i=l.length):(l++[x]).getD i d=x:=by
 subst h;rw[P3];simp
theorem Yq{n k:Int}{l:List Ep}(h:∀e∈l,YN n (-1) e.2=true){j:Nat}{p:pN}(hp:(pO (List.replicate 32 none) k l)[j]? =some (some p)):0<=p.1/\p.1<n:=by
 have E:∀(q:List pN) (A:List (Option pN)),(∀x∈q,0<=x.1/\x.1<n)->(∀(j:Nat) (p:pN),A[j]? =some (some p)->0<=p.1/\p.1<n)->∀(j:Nat) (p:pN),(q.foldl Bl A)[j]? =some (some p)->0<=p.1/\p.1<n:=by
  intro q
  induction q with
  |nil=>intro A _ h;exact h
  |cons x q C=>
   intro A B z;refine C _ (fun y G=>B y (by simp[G])) fun j p u=>?_;unfold Bl at u;rw[aCq] at u;split at u
   ·split at u
    ·cases u;exact B _ (by simp)
    ·cases u
   ·exact z j p u
 have F:∀(l:List Ep) (A:List (Option pN)),(∀e∈l,YN n (-1) e.2=true)->(∀(j:Nat) (p:pN),A[j]? =some (some p)->0<=p.1/\p.1<n)->∀(j:Nat) (p:pN),(pO A k l)[j]? =some (some p)->0<=p.1/\p.1<n:=by
  intro l
  induction l with
  |nil=>intro A _ z;exact z
  |cons e l C=>
   intro A D z;refine C _ (fun H I=>D H (by simp[I])) fun j p u=>?_;simp only at u;split at u
   ·exact E e.2 A (fun x B=>by have:=YU n e.2 _ (D e (by simp)) x B;omega) z j p u
   ·exact z j p u
 exact F l _ h (fun j p u=>by rw[aDw] at u;split at u<;>cases u) j p hp
end Go.n5
namespace Go.ZX
open Go.Pl
open Go Go.Sw Go.Mo
theorem IB(l:List aQ)(b:aQ)(h:l.length<=1000000):Dd l b=some (if b∈l then ((l.idxOf b:Nat):Int) else -1):=by
 unfold Dd;rw[show (0:Int)=((0:Nat):Int) from rfl,Bi (l:=l) (fun i (_:Unit)=>(i:Int)) () (fun i z _=>if z=b then .done (.ret (i:Int)) else .next ()) (fun _=> .WN ()) (by unfold fO;omega)]
 ·have:∀(l:List aQ) (i:Nat),sS (fun (i:Nat) (z:aQ) (_:Unit)=>(if z=b then Step.done (Ex.ret (i:Int)) else .next ():Step Unit (Ex Unit Int))) (fun _=> .WN ()) i () l=if b∈l then .ret ((i+l.idxOf b:Nat):Int) else .WN ():=by
   intro l;induction l with
   |nil=>intro i;simp[sS]
   |cons x l C=>
    intro i;simp only[sS];by_cases u:x=b
    ·subst u;simp
    ·have A:¬b=x:=fun h=>u h.symm;rw[WM u];simp only[C,o6,A,false_or,List.idxOf_cons];have:(x==b)=false:=by simp[u]
     rw[this];simp only[pF];split<;>simp<;>omega
  rw[this];split<;>simp[out]
 ·rintro B x D acc rfl;simp only[pM,XT,mX,cM,Iq,HS (n:=B.length) (m:=1000000) (by simp at h;omega) (by omega)];by_cases u:x=b<;>simp[u,Iq]
 ·intro _;simp[dS]
theorem Qr(pre:List aQ)(z:aQ):fP (pre.map fun x=>(x,true)) z=if z∈pre then some true else none:=by
 induction pre with
 |nil=>simp[fP]
 |cons x pre A=>
  simp only[D8,fP,A,o6];by_cases u:x=z
  ·simp[u]
  ·have:¬z=x:=fun h=>u h.symm;simp[u,this]
theorem ZU(l:List aQ)(h:l.length<=1000000):qC l=some (if l.length>8 then some 2 else if l.Nodup then none else some 3):=by
 unfold qC;by_cases E:l.length>8
 ·have:cm .gtr (l.length:Int) 8=true:=by simp[cm];omega
  rw[this];simp[E]
 have:cm .gtr (l.length:Int) 8=false:=by simp[cm];omega
 rw[this,WM E];simp only[pF];rw[show ((0:Int),([]:List (aQ×Bool)))=(((0:Nat):Int),(l.take 0).map fun x=>(x,true)) from rfl,Bi (l:=l) (fun i (_:Unit)=>((i:Int),(l.take i).map fun x=>(x,true))) () (fun i z _=>if z∈l.take i then .done (.ret (some 3)) else .next ()) (fun _=> .WN ()) (by unfold fO;omega)]
 ·have:∀(u pre:List aQ),l=pre++u->pre.Nodup->sS (fun (i:Nat) (z:aQ) (_:Unit)=>(if z∈l.take i then Step.done (Ex.ret (some 3)) else .next ():Step Unit (Ex Unit (Option Int)))) (fun _=> .WN ()) pre.length () u=if l.Nodup then .WN () else .ret (some 3):=by
   intro u;induction u with
   |nil=>intro pre B D;rw[Z4] at B;subst B;simp[sS,D]
   |cons x u K=>
    intro pre B D;simp only[sS];have C:l.take pre.length=pre:=by rw[B];simp
    rw[C];by_cases A:x∈pre
    ·rw[WV A];have:¬l.Nodup:=by rw[B,List.nodup_append];rintro⟨_,_,I⟩;exact I x A x (by simp) rfl
     simp[this]
    ·rw[WM A];have:=K (pre++[x]) (by rw[B];simp) (by rw[List.nodup_append];exact⟨D,by simp,fun a H b F=>by simp at F;subst F;rintro rfl;exact A H⟩);simpa using this
  have:=this l [] rfl (by simp);simp only[V8] at this;rw[this];split<;>simp[out]
 ·rintro pre x u acc rfl;have C:(pre++x::u).take pre.length=pre:=by simp
  simp only[pM,XT,mX,cM,C,Qr,Iq,HS (n:=pre.length) (m:=1000000) (by simp at h;omega) (by omega)];by_cases A:x∈pre
  ·simp[A,Iq]
  ·have G:(pre++x::u).take (pre.length+1)=pre++[x]:=by rw[List.take_append];simp[aB0]
   simp only[A,j5,aEx,pF,Hc,Qr,cM,Iq,G];simp
 ·intro _;simp[dS]
end Go.ZX
namespace Go.ZX
open Go.Pl
open Go Go.Sw Go.Mo
abbrev l6:=Int×Int×Int×aQ
def Sn(h:List aQ):Int:=if h.length>8 then 2 else if h.Nodup then 0 else 3
def YL(e h:List aQ):Int:=if e.length<1\/e.length>32 then 1 else Sn h
def opt(n:Int):Option Int:=if n=0 then none else some n
theorem Ni(l:List aQ)(h:l.length<=1000000):qC l=some (opt (Sn l)):=by
 rw[ZU l h];unfold Sn opt;by_cases u:l.length>8
 ·simp[u]
 by_cases z:l.Nodup<;>simp[u,z]
theorem Nj(e h:List aQ)(hh:h.length<=1000000):nY e h=some (opt (YL e h)):=by
 unfold nY YL;simp only[cl,cg,Ni h hh];by_cases u:e.length<1
 ·have:(e.length:Int)<1:=by omega
  simp[u,this,opt]
 by_cases B:e.length>32
 ·have z:¬(e.length:Int)<1:=by omega
  have A:(e.length:Int)>32:=by omega
  simp[u,B,z,A,opt]
 have z:¬(e.length:Int)<1:=by omega
 have A:¬(e.length:Int)>32:=by omega
 simp[u,B,z,A]
def Pd(n prev:Int)(x:l6):Bool:=decide (x.1<=prev) || decide (x.1>=n) || decide (x.2.1<0) || decide (x.2.1>3)
def Gl(n:Int):Int->List l6->Bool
 |_,[]=>true
 |prev,x::l=> !Pd n prev x && Gl n x.1 l
theorem MX(n prev:Int)(x:l6){γ:Type}(k:Bool->Option γ):((bif (cm .leq x.1 prev) then
  some true
  else
   bif (cm .geq x.1 n) then
    some true
   else
    bif (cm .lss x.2.1 (0:Int)) then
     some true
    else
     some (cm .gtr x.2.1 (3:Int))).bind k)=k (Pd n prev x):=by
 simp only[yy,K0,cl,cg];unfold Pd;by_cases h:x.1<=prev
 ·simp[h]
 by_cases u:x.1>=n
 ·simp[h,u]
 by_cases z:x.2.1<0
 ·simp[h,u,z]
 simp[h,u,z]
theorem Qs{n:Int}:∀{l:List l6} {prev:Int},Gl n prev l=true->∀x∈l,0<=x.2.1/\x.2.1<=3
 | [],_,_,x,u=>by simp at u
 |y::l,prev,h,x,u=>by
  simp only[Gl,E7,qt] at h;rcases o6.1 u with rfl | u
  ·have:=h.1;unfold Pd at this;simp at this;omega
  ·exact Qs h.2 x u
def Vi(w n:Int)(l:List l6):Int:=if w=0 then (if Gl n (-1) l then 0 else 1) else w
theorem IC{γ:Type}(l:List l6)(n:Int)(z:γ)(hl:l.length<=1000000)(k:Unit->Option γ):
  lp (β:=Unit) (fun (M8:Int×Int)=>
    bif (cm .lss M8.2 (l.length:Int)) then
     (Sw.idx l M8.2).bind fun dg=>
      (bif (cm .leq dg.1 M8.1) then
       some true
      else
       bif (cm .geq dg.1 n) then
        some true
       else
        bif (cm .lss dg.2.1 (0:Int)) then
         some true
        else
         some (cm .gtr dg.2.1 (3:Int))).bind fun jc=>
       bif jc then
        some (.done (.ret z))
       else
        some (.next (dg.1,(ar .add .i64 M8.2 (1:Int))))
    else
     some (.done (.WN ()))
    ) ((-1:Int),(0:Int)) k=if Gl n (-1) l then k () else some z:=by
 refine(Bi (l:=l) (fun i (acc:Int)=>(acc,(i:Int))) (-1:Int) (fun _ x acc=>if Pd n acc x then .done (.ret z) else .next x.1) (fun _=> .WN ()) (Gf hl (by decide)) ?_ ?_).trans ?_
 ·intro B x C acc h;simp only[kR h,XT,kD h,cM,MX];by_cases u:Pd n acc x=true
  ·simp[u,Iq]
  ·simp only[uw] at u;rw[r7 (by rw[h] at hl;simp at hl;omega)];simp[u,Iq]
 ·intro acc;simp only[dS,pF]
 ·have:∀(l:List l6) (i:Nat) (prev:Int),sS (fun (_:Nat) (x:l6) (acc:Int)=>(if Pd n acc x then .done (.ret z) else .next x.1:Step Int (Ex Unit γ))) (fun _=> .WN ()) i prev l=if Gl n prev l then .WN () else .ret z:=by
   intro l
   induction l with
   |nil=>intro i prev;simp[sS,Gl]
   |cons x l A=>
    intro i prev;simp only[sS];by_cases u:Pd n prev x=true
    ·simp[u,Gl]
    ·simp only[uw] at u;simp[u,Gl,A]
  rw[this];by_cases g:Gl n (-1) l=true<;>simp[g,out]
def zY(x:l6)(e h:List aQ):aQ×Bool:=
 if x.2.1=0 then (aS,true) else if x.2.1=3 then (x.2.2.2,true) else
  let l:=if x.2.1=2 then h else e
  if x.2.2.1<0\/x.2.2.1>=l.length then (aS,false) else (l.getD x.2.2.1.toNat [],true)
theorem ID(l:List aQ)(n:Int):((bif (cm .lss n (0:Int)) then
  some true
        else
         some (cm .geq n (l.length:Int))).bind fun x5=>
         bif x5 then
          some (aS,false)
         else
          (Sw.idx l n).bind fun z8=>
           some (z8,true))=some (if n<0\/n>=l.length then (aS,false) else (l.getD n.toNat [],true)):=by
 rw[cl,K0];by_cases h:n<0
 ·simp[h]
 by_cases u:n>=l.length
 ·simp[h,u]
 have z:n.toNat<l.length:=by omega
 have:Sw.idx l n=some (l.getD n.toNat []):=by unfold Sw.idx;rw[WV (by omega)];simp[P3,E8 z]
 simp only[h,u,F4,pF,cM,this,aE1,j5]
theorem PV(l:List aQ)(n:Int):tG l n=some (if n<0\/n>=l.length then (aS,false) else (l.getD n.toNat [],true)):=ID l n
def So(e h:List aQ)(x:l6)(acc:List (Int×aQ)×List Int):List (Int×aQ)×List Int:=
 if (zY x e h).2 then (acc.1++[(x.1,(zY x e h).1)],acc.2) else (acc.1,acc.2++[x.1])
def YC(e h:List aQ)(l:List l6):List (Int×aQ)×List Int:=(l.zipIdx).foldl (fun acc x=>So e h x.1 acc) ([],[])
theorem IE(e h:List aQ)(x:l6)(acc:List (Int×aQ)×List Int):(So e h x acc).1.length+(So e h x acc).2.length=acc.1.length+acc.2.length+1:=by
 unfold So;split<;>simp<;>omega
theorem IF{γ:Type}(e h:List aQ)(x:l6)(acc:List (Int×aQ)×List Int)(ha:acc.1.length+acc.2.length<=1000000)(k:List (Int×aQ)×List Int->Option γ)(v:aQ×Bool)(hv:v=zY x e h):
  (bif v.2 then (Sw.app acc.1 ([(x.1,v.1)]:(List (Int×aQ)))).bind fun aTm=>k (aTm,acc.2) else (Sw.app acc.2 ([x.1]:(List Int))).bind fun aGt=>k (acc.1,aGt))=k (So e h x acc):=by
 subst hv;unfold So;rw[VM _ _ (by simp;omega),VM _ _ (by simp;omega)];by_cases c:(zY x e h).2=true
 ·simp[c]
 ·simp only[uw] at c;simp[c]
theorem Vj(l:List l6)(e h:List aQ)(hl:l.length<=1000)(hk:∀x∈l,0<=x.2.1/\x.2.1<=3){γ:Type}(k:List (Int×aQ)×List Int->Option γ):
  lp (β:=(List (Int×aQ))×(List Int)) (fun (aq:Int×(List (Int×aQ))×(List Int))=>
    bif (cm .lss aq.1 (l.length:Int)) then
     (Sw.idx l aq.1).bind fun R6=>
      bif (cm .eql R6.2.1 (1:Int)) then
       (tG e R6.2.2.1).bind fun aL6=>
        bif aL6.2 then
         (Sw.app aq.2.1 ([(R6.1,aL6.1)]:(List (Int×aQ)))).bind fun wx=>
          some (.next ((ar .add .i64 aq.1 (1:Int)),wx,aq.2.2))
        else
         (Sw.app aq.2.2 ([R6.1]:(List Int))).bind fun E2=>
          some (.next ((ar .add .i64 aq.1 (1:Int)),aq.2.1,E2))
      else
       bif (cm .eql R6.2.1 (2:Int)) then
        (tG h R6.2.2.1).bind fun rm=>
         bif rm.2 then
          (Sw.app aq.2.1 ([(R6.1,rm.1)]:(List (Int×aQ)))).bind fun wv=>
           some (.next ((ar .add .i64 aq.1 (1:Int)),wv,aq.2.2))
         else
          (Sw.app aq.2.2 ([R6.1]:(List Int))).bind fun aGt=>
           some (.next ((ar .add .i64 aq.1 (1:Int)),aq.2.1,aGt))
       else
        bif (cm .eql R6.2.1 (3:Int)) then
         (Sw.app aq.2.1 ([(R6.1,R6.2.2.2)]:(List (Int×aQ)))).bind fun aTl=>
          some (.next ((ar .add .i64 aq.1 (1:Int)),aTl,aq.2.2))
        else
         (Sw.app aq.2.1 ([(R6.1,aS)]:(List (Int×aQ)))).bind fun aTk=>
          some (.next ((ar .add .i64 aq.1 (1:Int)),aTk,aq.2.2))
    else
     some (.done (.WN (aq.2.1,aq.2.2)))
    ) ((0:Int),([]:(List (Int×aQ))),([]:(List Int))) k=k (YC e h l):=by
 refine(D2 (l:=l) (fun i (acc:List (Int×aQ)×List Int)=>((i:Int),acc.1,acc.2)) (fun i acc=>acc.1.length+acc.2.length=i) ([],[]) (fun _ x acc=>So e h x acc) id (Gf (n:=1000) hl (by decide)) rfl ?_ ?_).trans ?_
 ·intro D x K acc B F;have H:D.length<=1000:=by rw[B] at hl;simp at hl;omega
  have I:=hk x (by rw[B];simp);refine⟨?_,by rw[IE,F]⟩;simp only[kR B,XT,ce,cM,kD B,PV];rw[r7 (by omega)];have z:=fun v G=>IF e h x acc (by omega) (fun a=>(some (.next (((D.length+1:Nat):Int),a.1,a.2)):Option (Step (Int×(List (Int×aQ))×(List Int)) (Ex ((List (Int×aQ))×(List Int)) γ)))) v G;by_cases u:x.2.1=1
  ·have:=z (if x.2.2.1<0\/x.2.2.1>=e.length then (aS,false) else (e.getD x.2.2.1.toNat [],true)) (by unfold zY;simp[u]);simp only[u,jb,XT];exact this
  by_cases A:x.2.1=2
  ·have:=z (if x.2.2.1<0\/x.2.2.1>=h.length then (aS,false) else (h.getD x.2.2.1.toNat [],true)) (by unfold zY;simp[A]);simp only[u,A,jb,F4,XT,pF];exact this
  by_cases C:x.2.1=3
  ·have:=z (x.2.2.2,true) (by unfold zY;simp[C]);simp only[u,A,C,jb,F4,XT,pF];exact this
  ·have E:x.2.1=0:=by omega
   have:=z (aS,true) (by unfold zY;simp[E]);simp only[u,A,C,F4,pF];exact this
 ·intro acc _;simp only[dS,pF];rfl
 ·rfl
theorem IG(l:List l6)(e h:List aQ)(hl:l.length<=1000)(hh:h.length<=1000000):pK l e h=some (if Vi (YL e h) e.length l=0 then ((YC e h l).1,(YC e h l).2,none) else ([],[],some (Vi (YL e h) e.length l))):=by
 unfold pK;rw[Nj e h hh,cM];unfold Vi;by_cases u:YL e h=0
 ·simp only[u,opt,l3,ZY,pF];rw[IC l _ _ (by omega)];by_cases g:Gl e.length (-1) l=true
  ·simp only[g,l3];rw[Vj l e h hl (Qs g)]
  ·simp[g]
 ·simp[u,opt]
end Go.ZX
namespace Go.ZX
open Go.Pl
open Go Go.Sw Go.Mo
theorem BJ{α:Type}[DecidableEq α]{k:α}:∀{l:List α},kp l k=none->k∉l
 | [],_=>by simp
 |a::l,h=>by
  simp only[kp] at h;split at h
  ·cases h
  ·rename_i u;cases hr:kp l k with
   |none=>have:=BJ hr;simp only[o6,not_or];exact⟨fun e=>u e.symm,this⟩
   |some j=>rw[hr] at h;cases h
theorem Qt{α β:Type}[DecidableEq α]{k:α}:∀{m:List (α×β)},k∉m.map (·.1)->fP m k=none
 | [],_=>rfl
 | (a,b)::m,h=>by
  simp only[D8,o6,not_or] at h;simp only[fP,WM (fun e=>h.1 (Eq.symm e))];exact Qt h.2
theorem Kh{α β:Type}[DecidableEq α]{k:α}{v:β}{b:α}:∀{m:List (α×β)},k∉m.map (·.1)->fP (m++[(k,v)]) b=if b=k then some v else fP m b
 | [],_=>by simp only[U7,fP];by_cases h:k=b<;>simp[h];intro e;exact(h e.symm).elim
 | (a,c)::m,h=>by
  simp only[D8,o6,not_or] at h;simp only[cz,fP,Kh h.2];by_cases u:a=b
  ·subst u;rw[WV rfl,WV rfl,WM (fun e=>h.1 e.symm)]
  ·simp[u]
theorem Qu{α β:Type}[DecidableEq α]{k:α}{v:β}{b:α}:∀{m:List (α×β)} {q:Nat},kp (m.map (·.1)) k=some q->fP (wE m q v) b=if b=k then some v else fP m b
 | [],q,h=>by simp[kp] at h
 | (a,c)::m,q,h=>by
  simp only[D8,kp] at h;split at h
  ·rename_i z;cases h;subst z;simp only[wE,List.modify_zero_cons,fP];by_cases u:a=b
   ·simp[u]
   ·have:¬b=a:=fun e=>u e.symm;simp[u,this]
  ·rename_i z;cases hr:kp (m.map (·.1)) k with
   |none=>rw[hr] at h;cases h
   |some j=>
    rw[hr] at h;cases h;have:=Qu (v:=v) (b:=b) hr;simp only[wE] at this;simp only[wE,List.modify_succ_cons,fP,this];by_cases u:a=b
    ·subst u;simp[z]
    ·simp[u]
theorem MY{κ α:Type}[DecidableEq κ](m:List (κ×List α))(k:κ)(hm:m.length<=140737488355328):
  ∃r,Sf m k=some r/\r.2.2=(fP m k).getD []/\(∀v b,fP (wE r.1 r.2.1 v) b=if b=k then some v else fP m b)/\∀v,(wE r.1 r.2.1 v).length<=m.length+1:=by
 unfold Sf;rw[WV hm];cases hk:kp (m.map (·.1)) k with
 |none=>
  have u:=BJ hk;refine⟨_,rfl,by rw[Qt u];rfl,fun v b=>?_,fun v=>?_⟩
  ·have:wE (m++[(k,[])]) m.length v=m++[(k,v)]:=by
    apply zj;intro i;simp only[wE,aB6];rcases Nat.lt_trichotomy i m.length with h | h | h
    ·rw[aBt h,aBt h];have:¬m.length=i:=by omega
     simp[this]
    ·subst h;simp
    ·rw[Z7 (by simp;omega),Z7 (by simp;omega)];rfl
   simp only[this];exact Kh u
  ·simp[wE]
 |some q=>
  refine⟨_,rfl,?_,fun v b=>Qu hk,fun v=>by simp[wE]⟩;rw[AW,hk];rfl
structure aj (l:List aQ) (M:List (aQ×List Int)):Prop where
 none:∀b,b∉l->fP M b=Option.none
 some:∀b,b∈l->∃t,fP M b=Option.some (((l.idxOf b:Nat):Int)::t)/\t.length<=l.length
 len:M.length<=l.length
theorem o8(l:List aQ)(h:l.length<=1000000):aP l=some l:=by
 unfold aP;rw[VM _ _ (by simp;omega)];rfl
theorem aj.add{l:List aQ}{M M':List (aQ×List Int)}{x:aQ}(h:aj l M)(hg:∀b,fP M' b=if b=x then Option.some ((fP M x).getD []++[(l.length:Int)]) else fP M b)(hlen:M'.length<=M.length+1):aj (l++[x]) M':=by
 refine⟨fun b z=>?_,fun b z=>?_,by have:=h.len;simp;omega⟩
 ·simp only[K5,aCd,not_or] at z;rw[hg,WM z.2,h.none b z.1]
 ·rw[hg];by_cases A:b=x
  ·subst A;rw[WV rfl,List.idxOf_append];by_cases u:b∈l
   ·obtain⟨t,B,C⟩:=h.some b u;rw[B,WV u];exact⟨t++[(l.length:Int)],by simp,by simp;omega⟩
   ·rw[h.none b u,WM u];exact⟨[],by simp,by simp⟩
  ·have u:b∈l:=by
    rcases K5.1 z with h | h
    ·exact h
    ·exact(A (by simpa using h)).elim
   rw[WM A,List.idxOf_append,WV u];obtain⟨t,B,C⟩:=h.some b u;exact⟨t,B,by simp;omega⟩
theorem Vk(l:List aQ)(h1:1<=l.length)(h2:l.length<=32):∃M,aj l M/\vV l=some (some (l,M),none):=by
 unfold vV;have E:cm .lss (l.length:Int) 1=false:=by rw[cl];simp;omega
 have F:cm .gtr (l.length:Int) 32=false:=by rw[cg];simp;omega
 simp only[E,pF,F,cM,o8 l (by omega)];have G:((0:Int),([]:List (aQ×List Int)))=(fun (i:Nat) (acc:List (aQ×List Int))=>((i:Int),acc)) 0 []:=rfl;rw[G]
 obtain⟨M,O,P⟩:=HT (l:=l) (k:=fun I=>some (some (l,I),(none:Option Int))) (step:=fun (u:Int×(List (aQ×(List Int))))=>
        bif (cm .lss u.1 (l.length:Int)) then
         (Sw.idx l u.1).bind fun K=>
          (Sf u.2 K).bind fun B=>
           (Sw.app B.2.2 ([u.1]:(List Int))).bind fun L=>
            some (.next ((ar .add .i64 u.1 (1:Int)),wE B.1 B.2.1 L))
        else
         some (.done (.WN u.2))) (fun (i:Nat) (acc:List (aQ×List Int))=>((i:Int),acc)) (fun h acc=>aj h acc) (fun acc=>acc) [] (by unfold fO;omega) ⟨fun b _=>rfl,fun b N=>by simp at N,YQ _⟩ (by
   intro h x V acc A z;have U:h.length<32:=by rw[A] at h2;simp at h2;omega
   obtain⟨r,Q,D,R,S⟩:=MY acc x (by have:=z.len;omega);have H:r.2.2.length+1<=4294967296:=by
    rw[D];by_cases C:x∈h
    ·obtain⟨t,T,X⟩:=z.some x C;rw[T];simp;omega
    ·rw[z.none x C];simp
   refine⟨wE r.1 r.2.1 (r.2.2++[(h.length:Int)]),?_,z.add (fun b=>?_) (S _)⟩
   ·simp only[kR A,XT,kD A,cM,Q,VM _ [(h.length:Int)] (by simpa using H)];rw[r7 (by omega)]
   ·rw[R,D]) (by
   intro acc z
   simp only[dS,pF])
 exact⟨M,O,P⟩
theorem Hq{l l':List aQ}{M:List (aQ×List Int)}(h:aj l M)(b:aQ):lW (some (l',M)) b=some (if b∈l then (((l.idxOf b:Nat):Int),true) else (0,false)):=by
 unfold lW;simp only[cM];by_cases u:b∈l
 ·obtain⟨t,z,_⟩:=h.some b u;rw[z,WV u];have:cm .eql (((some (((l.idxOf b:Nat):Int)::t)).getD []).length:Int) 0=false:=by rw[ce];simp;omega
  rw[this];simp[Sw.idx]
 ·rw[h.none b u,WM u];simp[ce]
theorem IH(l:List aQ)(b:aQ)(h:l.length<=1000000):eK l b=some (if b∈l then ((l.idxOf b:Nat):Int) else -1):=by
 rw[<-IB l b h];unfold eK Dd;have:∀z:aQ,decide (b=z)=decide (z=b):=fun z=>by by_cases h:b=z<;>simp[h];intro e;exact(h e.symm).elim
 simp only[this]
theorem Hr(l:List aQ)(b:aQ)(h:l.length<=1000000):uF l b=some (if b∈l then (((l.idxOf b:Nat):Int),true) else (0,false)):=by
 unfold uF;rw[IH l b h,cM];by_cases u:b∈l
 ·simp only[u,l3,K0];congr 2<;>simp
 ·simp[u,K0];decide
abbrev Pt:=Int×aQ
def Tq(p:Pt)(peer YK:List aQ):l6:=
 if p.2=aS then (p.1,0,0,aS) else if p.2∈peer then (p.1,1,((peer.idxOf p.2:Nat):Int),aS) else if p.2∈YK then (p.1,2,((YK.idxOf p.2:Nat):Int),aS) else (p.1,3,0,p.2)
def same(p:Pt)(peer:List aQ):Bool:=decide (peer[p.1.toNat]? =some p.2)
def ZH(YC:List Pt)(peer YK:List aQ):List l6:=(YC.filter fun p=> !same p peer).map fun p=>Tq p peer YK
theorem MZ{γ:Type}{peer lz YK:List aQ}{M:List (aQ×List Int)}(h:aj peer M)(hh:YK.length<=1000000)(p:Pt)(acc:List l6)(ha:acc.length<=1000000)(k:List l6->Option γ):
  lp (β:=(List (Int×Int×Int×aQ))) (fun (bh:Int)=>
    bif (cm .lss bh (([(.inl ():lS),(.inr (.inl (some (lz,M))):lS),(.inr (.inr (.inl YK)):lS),(.inr (.inr (.inr (.inl ()))):lS)]:(List lS)).length:Int)) then
     (Sw.idx ([(.inl ():lS),(.inr (.inl (some (lz,M))):lS),(.inr (.inr (.inl YK)):lS),(.inr (.inr (.inr (.inl ()))):lS)]:(List lS)) bh).bind fun vx=>
      (jG vx p).bind fun nh=>
       bif nh.2 then
        (Sw.app acc ([nh.1]:(List (Int×Int×Int×aQ)))).bind fun wu=>
         some (.done (.WN wu))
       else
        some (.next (ar .add .i64 bh (1:Int)))
    else
     some (.done (.WN acc))
    ) (0:Int) k=k (acc++[Tq p peer YK]):=by
 obtain⟨z,A⟩:∃z,z=([(.inl ():lS),(.inr (.inl (some (lz,M))):lS),(.inr (.inr (.inl YK)):lS),(.inr (.inr (.inr (.inl ()))):lS)]:(List lS)):=⟨_,rfl⟩
 rw[<-A];have D:∀w∈z,∃v,jG w p=some v:=by
  intro w F;rw[A] at F;simp only[o6,aCl,aEl] at F;rcases F with rfl | rfl | rfl | rfl
  ·exact⟨_,rfl⟩
  ·exact⟨_,by simp only[jG,nZ,Hq h,cM];rfl⟩
  ·exact⟨_,by simp only[jG,lX,Hr YK _ hh,cM];rfl⟩
  ·exact⟨_,rfl⟩
 have H:∀q:l6,Sw.app acc [q]=some (acc++[q]):=fun q=>VM acc [q] (by simp;omega);rw[show (0:Int)=(fun (i:Nat) (_:Unit)=>(i:Int)) 0 () from rfl,Bi (l:=z) (fun (i:Nat) (_:Unit)=>(i:Int)) () (fun _ w _=>match jG w p with | some v=>if v.2=true then .done (.WN (acc++[v.1])) else .next () | none=> .next ()) (fun _=> .WN acc) (by rw[A];unfold fO;simp)]
 ·have I:jG (.inl ()) p=some ((p.1,0,0,aS),decide (p.2=aS)):=rfl;have K:jG (.inr (.inl (some (lz,M)))) p=some ((p.1,1,(if p.2∈peer then (((peer.idxOf p.2:Nat):Int),true) else (0,false)).1,aS),(if p.2∈peer then (((peer.idxOf p.2:Nat):Int),true) else (0,false)).2):=by
   simp only[jG,nZ,Hq h,cM]
  have L:jG (.inr (.inr (.inl YK))) p=some ((p.1,2,(if p.2∈YK then (((YK.idxOf p.2:Nat):Int),true) else (0,false)).1,aS),(if p.2∈YK then (((YK.idxOf p.2:Nat):Int),true) else (0,false)).2):=by
   simp only[jG,lX,Hr YK _ hh,cM]
  have N:jG (.inr (.inr (.inr (.inl ())))) p=some ((p.1,3,0,p.2),true):=rfl;rw[A];simp only[sS,I,K,L,N];unfold Tq;by_cases B:p.2=aS
  ·simp[B,out]
  by_cases E:p.2∈peer
  ·simp[B,E,out]
  by_cases G:p.2∈YK
  ·simp[B,E,G,out]
  ·simp[B,E,G,out]
 ·intro O x Q u C;obtain⟨v,D⟩:=D x (by rw[C];simp);have P:O.length<=4:=by
   have:z.length=4:=by rw[A];rfl
   rw[C] at this;simp at this;omega
  simp only[kR C,XT,kD C,cM,D,H];cases ZZ:v.2 with
  |true=>simp[Iq]
  |false=>simp only[pF,P2,j5,Iq];rw[r7 (by omega)]
 ·intro u;simp only[dS,pF]
end Go.ZX
namespace Go.ZX
open Go.Pl
open Go Go.Sw Go.Mo
def P0(n prev:Int)(x:Pt):Bool:=decide (x.1<=prev) || decide (x.1>=n)
def l8(n:Int):Int->List Pt->Bool
 |_,[]=>true
 |prev,x::l=> !P0 n prev x && l8 n x.1 l
theorem L4{n:Int}:∀{l:List Pt} {prev:Int},l8 n prev l=true->∀x∈l,prev<x.1/\x.1<n
 | [],_,_,x,u=>by simp at u
 |y::l,prev,h,x,u=>by
  simp only[l8,E7,qt] at h;have z:=h.1;unfold P0 at z;simp at z;rcases o6.1 u with rfl | u
  ·omega
  ·have:=L4 h.2 x u;omega
theorem II{γ:Type}(l:List Pt)(n:Int)(z:γ)(hl:l.length<=1000000)(k:Unit->Option γ):
  lp (β:=Unit) (fun (ir:Int×Int)=>
    bif (cm .lss ir.2 (l.length:Int)) then
     (Sw.idx l ir.2).bind fun iq=>
      (bif (cm .leq iq.1 ir.1) then
       some true
      else
       some (cm .geq iq.1 n)).bind fun pz=>
       bif pz then
        some (.done (.ret z))
       else
        some (.next (iq.1,(ar .add .i64 ir.2 (1:Int))))
    else
     some (.done (.WN ()))
    ) ((-1:Int),(0:Int)) k=if l8 n (-1) l then k () else some z:=by
 rw[show ((-1:Int),(0:Int))=(fun (i:Nat) (acc:Int)=>(acc,(i:Int))) 0 (-1) from rfl,Lj (l:=l) (fun (i:Nat) (acc:Int)=>(acc,(i:Int))) (fun _ _=>True) (fun acc x=>if P0 n acc x then .done (.ret z) else .next x.1) (fun _=> .WN ()) (-1) (by unfold fO;omega) trivial]
 ·have:∀(l:List Pt) (prev:Int),yQ (fun (acc:Int) (x:Pt)=>(if P0 n acc x then Step.done (Ex.ret z) else .next x.1:Step Int (Ex Unit γ))) (fun _=> .WN ()) prev l=if l8 n prev l then .WN () else .ret z:=by
   intro l
   induction l with
   |nil=>intro prev;simp[yQ,l8]
   |cons x l C=>
    intro prev;simp only[yQ,l8];by_cases u:P0 n prev x=true
    ·simp[u]
    ·simp[u,C]
  rw[this];cases l8 n (-1) l<;>simp[out]
 ·rintro B x E acc rfl -;have D:B.length<=1000000:=by simp at hl;omega
  refine⟨?_,fun _ _=>trivial⟩;simp only[pM,XT,mX,cM];simp only[K0,yy];rw[r7 (by omega)];unfold P0;by_cases h:x.1<=acc
  ·simp[h,Iq]
  ·by_cases A:x.1>=n
   ·simp[h,A,Iq]
   ·simp[h,A,Iq]
 ·rintro acc -;simp only[dS,pF]
theorem X0(l:List Pt)(peer YK:List aQ):(ZH l peer YK).length<=l.length:=by unfold ZH;rw[ld];exact aCx _ _
theorem IJ(pre:List Pt)(x:Pt)(peer YK:List aQ):ZH (pre++[x]) peer YK=ZH pre peer YK++(if same x peer then [] else [Tq x peer YK]):=by
 unfold ZH;rw[zq,aCr];cases h:same x peer<;>simp[aD4,h]
theorem IK:opt 0=none:=rfl
theorem PW{n:Int}(h:n≠0):opt n=some n:=by unfold opt;rw[WM h]
theorem jg(l:List Pt)(peer YK:List aQ)(hl:l.length<=1000)(hh:YK.length<=1000000):
  qZ l peer YK=some (if YL peer YK≠0 then ([],some (YL peer YK)) else if l8 (peer.length:Int) (-1) l then (ZH l peer YK,none) else ([],some 1)):=by
 unfold qZ;rw[Nj peer YK hh,cM];by_cases h:YL peer YK≠0
 ·rw[PW h,WV h];rfl
 have h:YL peer YK=0:=by simpa using h
 have A:1<=peer.length/\peer.length<=32:=by
  unfold YL at h;split at h
  ·cases h
  ·omega
 rw[h,IK];simp only[ZY,pF];rw[II l _ _ (by omega)];cases hr:l8 (peer.length:Int) (-1) l with
 |false=>simp
 |true=>
  simp only[l3];obtain⟨M,E,F⟩:=Vk peer A.1 A.2;rw[F,cM];simp only[ZY,pF];have B:((0:Int),([]:List l6))=(fun (i:Nat) (acc:List l6)=>((i:Int),acc)) 0 []:=rfl;rw[B];refine(De (l:=l) (r:=some (ZH l peer YK,none)) (fun (i:Nat) (acc:List l6)=>((i:Int),acc)) (fun u acc=>acc=ZH u peer YK) (fun acc=>acc) [] (by unfold fO;omega) rfl ?_ ?_ ?_).trans (by simp)
  ·rintro u x L acc z rfl;have C:=L4 hr x (by rw[z];simp);have I:u.length<=1000:=by rw[z] at hl;simp at hl;omega
   have K:=X0 u peer YK;obtain⟨y,G,H⟩:=yP (l:=peer) (n:=x.1) (by omega) C.2;have D:same x peer=decide (y=x.2):=by unfold same;rw[H];simp
   refine⟨ZH u peer YK++(if same x peer then [] else [Tq x peer YK]),?_,(IJ _ _ _ _).symm⟩;simp only[kR z,XT,kD z,cM,jp,G,<-D];rw[MZ E hh x (ZH u peer YK) (by omega)];rw[r7 (by omega)];cases same x peer<;>simp
  ·rintro acc rfl;simp only[dS,pF]
  ·rintro acc rfl;rfl
end Go.ZX
namespace Go.ZX
open Go.Pl
open Go Go.Sw Go.Mo
end Go.ZX
namespace Go.ZX
open Go.Pl
open Go Go.Sw Go.Mo
theorem Sp(p:Pt)(peer YK:List aQ):(Tq p peer YK).1=p.1:=by unfold Tq;split;rfl;split;rfl;split<;>rfl
theorem IL(p:Pt)(peer YK:List aQ):0<=(Tq p peer YK).2.1/\(Tq p peer YK).2.1<=3:=by unfold Tq;split;simp;split;simp;split<;>simp
theorem Jd{n:Int}{peer YK:List aQ}:∀{l:List Pt} {prev ly:Int},l8 n prev l=true->ly<=prev->Gl n ly (ZH l peer YK)=true
 | [],_,_,_,_=>rfl
 |x::l,prev,ly,h,B=>by
  simp only[l8,E7,qt] at h;have u:=h.1;unfold P0 at u;simp at u;cases hs:same x peer with
  |true=>
   have e:ZH (x::l) peer YK=ZH l peer YK:=by unfold ZH;simp[hs]
   rw[e];exact Jd h.2 (by omega)
  |false=>
   have e:ZH (x::l) peer YK=Tq x peer YK::ZH l peer YK:=by unfold ZH;simp[hs]
   have A:=IL x peer YK;have z:Pd n ly (Tq x peer YK)=false:=by
    unfold Pd;rw[Sp];simp;omega
   rw[e];simp only[Gl,z,vo,aEu];rw[Sp];exact Jd h.2 (aDn _)
theorem IM(p:Pt)(peer YK:List aQ):zY (Tq p peer YK) peer YK=(p.2,true):=by
 have D:∀(l:List aQ),p.2∈l->¬(((l.idxOf p.2:Nat):Int)<0\/((l.idxOf p.2:Nat):Int)>=l.length)/\l.getD (((l.idxOf p.2:Nat):Int).toNat) []=p.2:=by
  intro l h;have E:=aEg h;refine⟨by omega,?_⟩;simp[P3,E8 E]
 unfold Tq;by_cases u:p.2=aS
 ·simp[u,zY]
 by_cases z:p.2∈peer
 ·obtain⟨B,C⟩:=D peer z;simp only[u,z,j5,l3,zY];rw[WM (by decide),WM (by decide)];simp only[show¬(1:Int)=2 by decide,j5,B,C]
 by_cases A:p.2∈YK
 ·obtain⟨B,C⟩:=D YK A;simp only[u,z,A,j5,l3,zY];rw[WM (by decide),WM (by decide)];simp only[l3,B,C,j5]
 ·simp[u,z,A,zY]
def news(l:List Pt)(peer:List aQ):List Pt:=l.filter fun p=> !same p peer
theorem DV(l:List Pt)(peer YK:List aQ):YC peer YK (ZH l peer YK)=(news l peer,[]):=by
 unfold YC;have h:∀(l:List Pt) (i:Nat) (acc:List (Int×aQ)×List Int),(((l.map fun p=>Tq p peer YK).zipIdx i).foldl (fun acc x=>So peer YK x.1 acc) acc)=(acc.1++l,acc.2):=by
  intro l
  induction l with
  |nil=>intro i acc;simp
  |cons x l u=>
   intro i acc;rw[D8,aCk,U6,u];unfold So;rw[IM,Sp];simp
 unfold ZH;rw[h];simp[news]
theorem kv(l:List Pt)(peer YK:List aQ)(hl:l.length<=1000)(hh:YK.length<=1000000)(he:YL peer YK=0)(hr:l8 (peer.length:Int) (-1) l=true):
  pK (ZH l peer YK) peer YK=some (news l peer,[],none):=by
 rw[IG _ _ _ (by have:=X0 l peer YK;omega) hh];have:Vi (YL peer YK) peer.length (ZH l peer YK)=0:=by
  unfold Vi;rw[he,Jd hr (aDn _)];rfl
 rw[WV this,DV]
def Kt(acc:List aQ)(l:List Pt):List aQ:=l.foldl (fun acc p=>acc.set p.1.toNat p.2) acc
theorem N5{n:Int}{peer:List aQ}:∀{l:List Pt} {prev:Int} {acc:List aQ},-1<=prev->l8 n prev l=true->(∀i:Nat,prev<(i:Int)->acc[i]? =peer[i]?)->Kt acc (news l peer)=Kt acc l
 | [],_,_,_,_,_=>rfl
 |x::l,prev,acc,F,h,z=>by
  simp only[l8,E7,qt] at h;have A:=h.1;unfold P0 at A;simp at A;have D:x.1=((x.1.toNat:Nat):Int):=by omega
  cases hs:same x peer with
  |true=>
   have e:news (x::l) peer=news l peer:=by unfold news;simp[hs]
   have C:acc.set x.1.toNat x.2=acc:=by
    have B:peer[x.1.toNat]? =some x.2:=by unfold same at hs;simpa using hs
    rw[<-z x.1.toNat (by omega)] at B;apply zj;intro i;rw[aCq];split
    ·rename_i u;subst u;split
     ·exact B.symm
     ·rename_i E;rw[Z7 (by omega)]
    ·rfl
   rw[e,N5 (by omega) h.2 (fun i u=>z i (by omega))];show _=Kt (acc.set _ _) l;rw[C]
  |false=>
   have e:news (x::l) peer=x::news l peer:=by unfold news;simp[hs]
   rw[e];show Kt (acc.set _ _) (news l peer)=Kt (acc.set _ _) l;refine N5 (by omega) h.2 (fun i u=>?_);rw[uv (by omega)];exact z i (by omega)
end Go.ZX
namespace Go.ZX
open Go.Pl
open Go Go.Sw Go.Mo
theorem dn{peer YK:List aQ}(h1:1<=peer.length)(h2:peer.length<=32)(h3:YK.length<=8)(h4:YK.Nodup):YL peer YK=0:=by
 unfold YL Sn;rw[WM (by omega),WM (by omega),WV h4]
theorem xg{n:Int}{l:List Pt}{peer:List aQ}(hr:l8 n (-1) l=true):∀x∈news l peer,0<=x.1/\x.1<n:=by
 intro x h;have:=L4 hr x (zg.1 h).1;omega
end Go.ZX
namespace Go.WT
open Go.Pl
open Go Go.Sw Go.Mo
def Sq:Nat:=3988292384
def Yr(r:Nat):Nat:=if r % 2=1 then r / 2 ^^^ Sq else r / 2
theorem NA{r:Nat}(h:r<4294967296):Yr r<4294967296:=by
 unfold Yr;split
 ·have:r / 2 ^^^ Sq<2 ^ 32:=aCc (by omega) (by unfold Sq;omega);simpa using this
 ·omega
def Pe:Nat->Nat->Nat
 | 0,r=>r
 |n+1,r=>Yr (Pe n r)
theorem Lm{n r:Nat}(h:r<4294967296):Pe n r<4294967296:=by
 induction n with
 |zero=>exact h
 |succ n u=>exact NA u
def zZ(r:Nat)(b:Nat):Nat:=Pe 8 (r ^^^ b)
theorem Bn{r b:Nat}(h:r<4294967296)(hb:b<256):zZ r b<4294967296:=by
 refine Lm ?_;have:r ^^^ b<2 ^ 32:=aCc (by omega) (by omega);simpa using this
def Aa(l:List Nat):Nat:=l.foldl zZ 4294967295
theorem Hs(l:List Nat)(r:Nat)(h:r<4294967296)(hb:∀b∈l,b<256):l.foldl zZ r<4294967296:=by
 induction l generalizing r with
 |nil=>exact h
 |cons b l z=>exact z _ (Bn h (hb b (by simp))) (fun x u=>hb x (by simp[u]))
def Bytes(l:List Int):Prop:=∀x∈l,0<=x/\x<=255
def nat(l:List Int):List Nat:=l.map Int.toNat
theorem Ht{l:List Int}(h:Bytes l):∀b∈nat l,b<256:=by
 intro b u;obtain⟨x,z,rfl⟩:=bq.1 u;have:=h x z;omega
theorem IN(l:List Int)(h:Bytes l)(hl:l.length<=1000000):tP l=some ((4294967295 - Aa (nat l):Nat):Int):=by
 unfold tP;rw[show ((4294967295:Int),(0:Int))=(((⟨4294967295,by decide⟩:{r:Nat // r<4294967296}).1:Int),((0:Nat):Int)) from rfl];rw[Bi (l:=l) (fun i (r:{r:Nat // r<4294967296})=>((r.1:Int),(i:Int))) ⟨4294967295,by decide⟩ (fun _ x r=> .next ⟨zZ r.1 x.toNat % 4294967296,qp _ (by decide)⟩) (fun r=> .WN (r.1:Int)) (by unfold fO;omega)]
 ·have:∀(l:List Int) (i:Nat) (r:{r:Nat // r<4294967296}),Bytes l->sS (fun (_:Nat) (x:Int) (r:{r:Nat // r<4294967296})=>(Step.next ⟨zZ r.1 x.toNat % 4294967296,qp _ (by decide)⟩:Step _ (Ex Int Int))) (fun r=> .WN (r.1:Int)) i r l= .WN (((nat l).foldl zZ r.1:Nat):Int):=by
   intro l
   induction l with
   |nil=>intro i r _;rfl
   |cons x l I=>
    intro i r z;simp only[sS,nat,D8,U6];have u:=I (i+1) ⟨zZ r.1 x.toNat % 4294967296,qp _ (by decide)⟩ (fun y G=>z y (by simp[G]));rw[u];have:=z x (by simp);have e:zZ r.1 x.toNat % 4294967296=zZ r.1 x.toNat:=P4 (Bn r.2 (by omega));show Ex.WN (((nat l).foldl zZ (zZ r.1 x.toNat % 4294967296):Nat):Int)=_;rw[e];rfl
  rw[this l 0 _ h];have A:(nat l).foldl zZ 4294967295<4294967296:=Hs _ _ (by decide) (Ht h);simp only[out,Aa];rw[SC A]
 ·rintro H x L ⟨r,B⟩ rfl;have K:=h x (by simp);obtain⟨b,rfl⟩:∃b:Nat,x=(b:Int):=⟨x.toNat,by omega⟩
  have z:b<256:=by omega
  simp only[pM,XT,mX,cM];have C:r ^^^ b<4294967296:=by
   have:r ^^^ b<2 ^ 32:=aCc (by omega) (by omega);simpa using this
  rw[OQ B (by omega),show ((((r ^^^ b:Nat):Int)),(0:Int))=(fun i:Nat=>((Pe i (r ^^^ b):Int),(i:Int))) 0 from rfl];rw[Ux (fun i:Nat=>((Pe i (r ^^^ b):Int),(i:Int))) 8 ((Pe 8 (r ^^^ b):Nat):Int) (by unfold fO;omega)]
  ·simp only[Iq,HS (n:=H.length) (m:=1000000) (by simp at hl;omega) (by omega),m9];rw[P4 (Bn B z)];rfl
  ·intro i F;have A:=Lm (n:=i) C;have D:cm .lss (i:Int) 8=true:=by simp[cm];omega
   have E:(Pe i (r ^^^ b)) / 2<4294967296:=by omega
   simp only[D,XT,TY,SA A,SB (qp _ (by decide:0<2))];rw[OQ E (by split<;>decide),HS (n:=i) (m:=8) F (by omega)];simp only[Pe,Yr,Sq];split
   ·rename_i u;simp[u]
   ·rename_i u;simp[u]
  ·simp[cm]
 ·rintro⟨r,B⟩;simp[dS]
end Go.WT
namespace Go.WT
open Go.Pl
open Go Go.Sw Go.Mo
abbrev fJ:=Int×List Int×List aQ
def wO(x:Int):Bool:=decide (x<0) || decide (x>2147483647)
def dZ(f:fJ):Int:=if f.1<0\/f.1>15 then 1 else if f.2.1.length>12\/f.2.2.length>32 then 2 else if f.2.1.any wO then 1 else 0
theorem Vl{D:Type}(r:Nat->D)(l:List Int):∀i,sS (fun (i:Nat) (x:Int) (_:Unit)=>(if wO x then Step.done (Ex.ret (r i)) else .next ():Step Unit (Ex Unit D))) (fun _=> .WN ()) i () l=match l.findIdx? wO with | some j=> .ret (r (i+j)) | none=> .WN ():=by
 induction l with
 |nil=>intro i;simp[sS]
 |cons x l u=>
  intro i;simp only[sS,List.findIdx?_cons];by_cases h:wO x=true
  ·simp[h]
  ·simp only[h,j5,u,P2];cases l.findIdx? wO with
   |none=>rfl
   |some j=>simp[aDu,zm 1]
theorem Vm(l:List Int):l.any wO=(l.findIdx? wO).isSome:=by
 rw[List.findIdx?_isSome]
theorem DW(x:Int):pR x=some (wO x):=by
 unfold pR wO;by_cases h:x<0
 ·have:cm .lss x 0=true:=by simp[cm,h]
  simp[this,h]
 ·have:cm .lss x 0=false:=by simp[cm];omega
  simp[this,h,cm]
theorem Vn(l:List Int)(h:l.length<=1000000):cW l=some (l.any wO):=by
 unfold cW eG;rw[show (0:Int)=((0:Nat):Int) from rfl,Bi (l:=l) (fun i (_:Unit)=>(i:Int)) () (fun i x _=>if wO x then .done (.ret (i:Int)) else .next ()) (fun _=> .WN ()) (by unfold fO;omega)]
 ·rw[Vl (fun i=>(i:Int)),Vm];cases l.findIdx? wO<;>simp[out,cm]
 ·rintro u x z acc rfl;simp only[pM,XT,mX,cM,DW,HS (n:=u.length) (m:=1000000) (by simp at h;omega) (by omega)];cases wO x<;>simp[Iq]
 ·intro _;simp[dS]
theorem Fo(f:fJ):qB f=some (if dZ f=0 then none else some (dZ f)):=by
 obtain⟨s,h,u⟩:=f;unfold qB dZ;by_cases z:s<0
 ·have:cm .lss s 0=true:=by simp[cm,z]
  simp[this,z]
 have A:cm .lss s 0=false:=by simp[cm];omega
 by_cases C:s>15
 ·have:cm .gtr s 15=true:=by simp[cm];omega
  simp[A,this,C]
 have D:cm .gtr s 15=false:=by simp[cm];omega
 have E:¬(s<0\/s>15):=by omega
 simp only[A,D,pF,cM,E,j5];by_cases F:h.length>12
 ·have:cm .gtr (h.length:Int) 12=true:=by simp[cm];omega
  simp[this,F]
 have B:cm .gtr (h.length:Int) 12=false:=by simp[cm];omega
 by_cases G:u.length>32
 ·have:cm .gtr (u.length:Int) 32=true:=by simp[cm];omega
  simp[B,this,G]
 have H:cm .gtr (u.length:Int) 32=false:=by simp[cm];omega
 have I:¬(h.length>12\/u.length>32):=by omega
 simp only[B,H,pF,cM,I,j5,Vn h (by omega)];cases h.any wO<;>simp
def vf:Nat->Nat->List Int
 | 0,n=>[(n:Int)]
 |k+1,n=>if n<128 then [(n:Int)] else ((128+n % 128:Nat):Int)::vf k (n / 128)
theorem Nk:∀k n,n<128 ^ (k+1)->Bytes (vf k n)/\(vf k n).length<=k+1
 | 0,n,h=>by
  simp at h;exact⟨fun x u=>by simp[vf] at u;omega,by simp[vf]⟩
 |k+1,n,h=>by
  unfold vf;split
  ·exact⟨fun x u=>by simp at u;omega,by simp⟩
  ·have z:n / 128<128 ^ (k+1):=by rw[aEh] at h;omega
   obtain⟨A,B⟩:=Nk k (n / 128) z;refine⟨fun x u=>?_,by simp;omega⟩;rcases o6.1 u with rfl | u
   ·have:=qp n (by decide:0<128);omega
   ·exact A x u
theorem Qv{γ:Type}{step:Int×List Int->Option (Step (Int×List Int) (Ex (Int×List Int) γ))}
  (h1:∀(n:Nat) acc,128<=n->n<34359738368->acc.length<=1000000->step ((n:Int),acc)=some (.next (((n / 128:Nat):Int),acc++[((128+n % 128:Nat):Int)])))
  (h2:∀(n:Nat) acc,n<128->step ((n:Int),acc)=some (.done (.WN ((n:Int),acc)))):
  ∀(k n:Nat) (acc:List Int) (f:Nat),n<128 ^ (k+1)->n<34359738368->acc.length+k<=1000000->k<f->∃(m:Nat) (XU:List Int),loop step f ((n:Int),acc)=some (.WN ((m:Int),XU))/\m<128/\XU++[(m:Int)]=acc++vf k n
 | 0,n,acc,f,h,_,_,C=>by
  obtain⟨f,rfl⟩:∃f',f=f'+1:=⟨f - 1,by omega⟩
  simp at h;exact⟨n,acc,by simp[loop,h2 n acc h],h,rfl⟩
 |k+1,n,acc,f,h,D,E,C=>by
  obtain⟨f,rfl⟩:∃f',f=f'+1:=⟨f - 1,by omega⟩
  by_cases u:n<128
  ·exact⟨n,acc,by simp[loop,h2 n acc u],u,by simp[vf,u]⟩
  ·obtain⟨m,XU,z,A,B⟩:=Qv h1 h2 k (n / 128) (acc++[((128+n % 128:Nat):Int)]) f (by rw[aEh] at h;omega) (by omega) (by simp;omega) (by omega);refine⟨m,XU,?_,A,?_⟩
   ·simp only[loop,h1 n acc (by omega) D (by omega)];exact z
   ·rw[B];simp[vf,u]
theorem TZ:∀a:Fin 256,ar .or .u8 ((a.1:Nat):Int) 128=((128+a.1 % 128:Nat):Int):=by decide+kernel
theorem Dg(n:Nat):IntKind.wrap .u8 (n:Int)=((n % 256:Nat):Int):=by
 simp[IntKind.wrap,IntKind.signed,IntKind.bits]
theorem UA(n:Nat):sh .shr .i64 (n:Int) 7=((n / 128:Nat):Int):=by
 show Int.fdiv _ _=_;have:(2:Int) ^ min (7:Int).toNat (IntKind.bits .i64)=128:=by decide
 rw[this,vt _ (by omega)];omega
theorem IP:∀s:Fin 16,∀n:Fin 13,ar .or .u8 (sh .shl .u8 (IntKind.wrap .u8 (s.1:Int)) 4) (IntKind.wrap .u8 (n.1:Int))=IntKind.wrap .u8 (ar .add .i64 (ar .mul .i64 16 (s.1:Int)) (n.1:Int)):=by decide+kernel
def Hu(f:fJ):List Int:=[IntKind.wrap .u8 (ar .add .i64 (ar .mul .i64 16 f.1) (f.2.1.length:Int)),IntKind.wrap .u8 (f.2.2.length:Int)]
def vs(ns:List Int):List Int:=ns.flatMap fun n=>vf 4 n.toNat
def body(f:fJ):List Int:=Hu f++vs f.2.1++f.2.2.flatten
def y6(v:Nat):List Int:=[((v / 16777216:Nat):Int),((v / 65536 % 256:Nat):Int),((v / 256 % 256:Nat):Int),((v % 256:Nat):Int)]
def aZ(f:fJ):List Int:=body f++y6 (4294967295 - Aa (nat (body f)))
theorem D2{α A B β γ:Type}{step:α->Option (Step α (Ex β γ))}{l:List A}{k:β->Option γ}(st:Nat->B->α)(I:Nat->B->Prop)(YW:B)(g:Nat->A->B->B)(fin:B->β)(hf:l.length<fO)(h0:I 0 YW)
  (hs:∀pre x rest acc,l=pre++x::rest->I pre.length acc->step (st pre.length acc)=some (.next (st (pre.length+1) (g pre.length x acc)))/\I (pre.length+1) (g pre.length x acc))
  (he:∀acc,I l.length acc->step (st l.length acc)=some (.done (.WN (fin acc)))):
  lp step (st 0 YW) k=k (fin ((l.zipIdx).foldl (fun acc x=>g x.2 x.1 acc) YW)):=by
 have C:∀(rest pre:List A) (acc:B) (f:Nat),l=pre++rest->I pre.length acc->rest.length<f->loop step f (st pre.length acc)=some (.WN (fin ((rest.zipIdx pre.length).foldl (fun acc x=>g x.2 x.1 acc) acc))):=by
  intro rest
  induction rest with
  |nil=>
   intro pre acc f u z hf;obtain⟨f,rfl⟩:∃f',f=f'+1:=⟨f - 1,by simp at hf;omega⟩
   have:=he acc (by rw[u,Z4];exact z);rw[u,Z4] at this;simp[loop,this]
  |cons x rest F=>
   intro pre acc f u z hf;obtain⟨f,rfl⟩:∃f',f=f'+1:=⟨f - 1,by simp at hf;omega⟩
   obtain⟨D,E⟩:=hs pre x rest acc u z;simp only[loop,D];have:=F (pre++[x]) (g pre.length x acc) f (by rw[u];simp) (by simpa using E) (by simp at hf;omega);simpa using this
 have h:=C l [] YW fO rfl h0 hf;unfold lp;simp only[V8] at h;rw[h]
theorem ZO{A:Type}(w:A->List Int):∀(l:List A) (i:Nat) (acc:List Int),(l.zipIdx i).foldl (fun acc x=>acc++w x.1) acc=acc++l.flatMap w
 | [],_,acc=>by simp
 |x::l,i,acc=>by simp[ZO w l]
end Go.WT
namespace Go.WT
open Go.Pl
open Go Go.Sw Go.Mo
theorem VM{α:Type}(xs ys:List α)(h:xs.length+ys.length<=4294967296):Sw.app xs ys=some (xs++ys):=by unfold Sw.app;rw[WV h]
end Go.WT
