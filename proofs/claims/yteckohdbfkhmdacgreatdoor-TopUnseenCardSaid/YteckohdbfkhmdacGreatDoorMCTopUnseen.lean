/- The library over the model: how values lie, what is ours in memory, rules for operations, calls, loops. What the functions come to, as plain functions. Plain laws about these plain functions alone. Conditions: none. -/
import Derived.Test.YteckohdbfkhmdacGreatDoorMBTopUnseen
import Derived.KernelRfl
set_option linter.unusedVariables false
set_option linter.unusedSimpArgs false
namespace Go.Sw
open Go Go.RowKit
def del{α:Type}(xs:List α)(lo hi:Int):Option (List α):=(sub xs lo hi).bind fun _=>some (xs.take lo.toNat++xs.drop hi.toNat)
section
variable {F:WK}{σ:AS}{pb:Option Nat}{d:Option Tmp}{ty:TypeId}{p:String}{af:Array Edge}{gd:Option (Nat×Bool)}{x y z:Operand}
theorem lG{g:Nat}:JO F ⟨d,.assign (.func g),ty,p,af,gd⟩ σ (.YV g []) []:=
 fun ρ S a w _=>UX.value (w':=w) (v:= .func (.func g) #[] #[]) (by simp[execOp,Act.eval]) (WU.same (FA g ρ S w))
end
section
variable {F:WK}{ops:Array Oper}{OK:List (Nat×UU)->Prop}{os:List Oper}{σ σ':AS}{its:List YL}{d:Option Tmp}{ty:TypeId}{p:String}{af:Array Edge}{gd:Option (Nat×Bool)}{x y z:Operand}{α:Type}{e:Wr α}{T:TypeId}{i:Nat}
theorem WZ.aUt{xs ys:List α}{lo:Int}{k:IntKind}{U E:TypeId}(g:GK ops σ.g ⟨d,.slice U x (some y) none none,ty,p,af,gd⟩ true)(j:Nat)(hs:Sw.sub xs lo (xs.length:Int)=some ys)(hx:cZ σ.g x=some (.ref i))(he:aW σ.d i=some (.arr T e xs))(hy:cZ σ.g y=some (.v (Wr.int k) lo))
  (hU:∀w,(underlying U).run F.P w= .ok (.slice E) w) (hE:∀w,(sizeOf E).run F.P w= .ok e.n w) (_:σ.free [(j,.arr T e ys)]=true) (hd:hO d F.N=true) (q:WZ F ops OK os ⟨iV d (.ref j) σ.g,(j,.arr T e ys)::vU σ.d i⟩ its σ'):
  WZ F ops OK (⟨d,.slice U x (some y) none none,ty,p,af,gd⟩::os) σ (⟨.ref j,[(j,.arr T e ys)],[(j,.arr T e ys)],Kt σ.g ⟨d,.slice U x (some y) none none,ty,p,af,gd⟩,[i]⟩::its) σ':=
 .mv (nw:=[(j,.arr T e ys)]) (dl:=[i]) g hd (fun σ2 h u=>KP j hs ((h.ev (by simp[Op.operands])).trans hx) ((h.w7 (x:=x) (by simp[Op.operands]) hx (by simp[Slot.XO])).trans he) ((h.ev (by simp[Op.operands])).trans hy) hU hE u hd) q
end
end Go.Sw
namespace Go.Sw
open Go Go.RowKit
theorem CI{α:Type}{xs r:List α}{lo hi:Int}(h:del xs lo hi=some r):∃A M B,xs=A++(M++B)/\lo=(A.length:Int)/\hi=((A.length+M.length:Nat):Int)/\r=A++B:=by
 unfold del at h;cases hs:sub xs lo hi with
 |none=>rw[hs] at h;cases h
 |some v=>
  rw[hs] at h;simp only[cM,u6] at h;subst h;obtain⟨z,C,D,_⟩:=gR hs;have u:xs.drop lo.toNat=(xs.take hi.toNat).drop lo.toNat++xs.drop hi.toNat:=by
   conv=>lhs;rw[<-V3 hi.toNat xs]
   rw[List.drop_append_of_le_length (by rw[A6];omega)]
  refine⟨xs.take lo.toNat,(xs.take hi.toNat).drop lo.toNat,xs.drop hi.toNat,by rw[<-u,V3],?_,?_,rfl⟩
  ·rw[A6];omega
  ·rw[A6,O8,A6];omega
theorem KZ{α:Type}(A M B:List α):sub (A++(M++B)) (A.length:Int) ((A.length+M.length:Nat):Int)=some M:=by
 have h:(A++(M++B)).length=A.length+(M.length+B.length):=by simp only[pT]
 rw[sub,VX (by omega),j5,j5,<-u9,List.take_left' (by rw[pT]),og]
section
variable {F:WK}{σ:AS}{d:Option Tmp}{ty:TypeId}{p:String}{af:Array Edge}{gd:Option (Nat×Bool)}{x y z u:Operand}{α:Type}{e:Wr α}{T U:TypeId}{i b:Nat}
theorem LA{xs ys:List α}{lo hi mx:Int}{k k' k2:IntKind}{E:TypeId}(hs:Sw.sub xs lo hi=some ys)(hm:mx=(xs.length:Int))(hx:cZ σ.g x=some (.ref i))(he:aW σ.d i=some (.arr T e xs))(hy:cZ σ.g y=some (.v (Wr.int k) lo))(hz:cZ σ.g z=some (.v (Wr.int k') hi))(hu:cZ σ.g u=some (.v (Wr.int k2) mx))
  (hU:∀w,(underlying U).run F.P w= .ok (.slice E) w) (hE:∀w,(sizeOf E).run F.P w= .ok e.n w):JO F ⟨d,.slice U x (some y) (some z) (some u),ty,p,af,gd⟩ σ (.sub i (lo.toNat*e.n) (hi.toNat - lo.toNat)) []:=by
 subst hm;intro ρ S a w K;obtain⟨A,C,R,h2,B,V⟩:=Tr K (x:=x) (by simp[Op.operands]) hx he;have D:=(fQ K (x:=y) (by simp[Op.operands]) hy).1;have G:=(fQ K (x:=z) (by simp[Op.operands]) hz).1;have H:=(fQ K (x:=u) (by simp[Op.operands]) hu).1;obtain⟨X,s1,s2,_⟩:=gR hs;have I:(Instr.sliceBounds true xs.length C (some (.int k lo)) (some (.int k' hi)) (some (.int k2 (xs.length:Int)))).run F.P w= .ok (lo.toNat,hi.toNat,xs.length) w:=by
  have L:(xs.length:Int)<=(C:Int):=by omega
  have M:0<=hi:=by omega
  have N:lo<=(hi.toNat:Int):=by omega
  have O:(0:Int)<=(xs.length:Int):=by omega
  simp only[Instr.sliceBounds,Instr.sliceBound,asIntOf,Sem.run_bind,Sem.run_pure,Result.andThen_ok,X,L,M,N,O,s2,j5,and_self,ZH]
 refine UX.value (w':=w) (v:= .slice (if xs.length=lo.toNat then A else A.map (·.add (lo.toNat*e.n))) (hi.toNat - lo.toNat) (xs.length - lo.toNat)) ?_ (WU.same ?_)
 ·simp[execOp,Instr.sliceAt,Instr.slice,R,D,G,H,hU,hE,I]
 ·have Q:∀q,A=some q->q.spot=none:=by
   rintro q rfl;rcases V with⟨_,h⟩|⟨b',I9,aa,cs,ab,h,_⟩
   ·rw[B] at h;cases h
   ·rw[B] at h;simp only[Value.slice.injEq,u6] at h;rw[h.1]
  simp only[Slot.ok];rw[B];refine⟨⟨_,_,_,rfl⟩,xs.length - lo.toNat,if xs.length=lo.toNat then 0 else lo.toNat*e.n,by omega,?_,?_⟩
  ·split
   ·right;omega
   ·exact .inl rfl
  ·cases A with
   |none=>split<;>rfl
   |some q=>
    obtain⟨b',o',sp⟩:=q;have:=Q _ rfl;simp only at this;subst this;split
    ·rfl
    ·simp[Tf,Addr.add_lit]
theorem Ue{o n c m:Nat}{lo:Int}{k:IntKind}{E:TypeId}(n':Nat)(H2:n'=0)(hlo:lo=(m:Int))(hm:m=n)(hmc:m=c)(hx:cZ σ.g x=some (.n9 i o 0 n c))(hy:cZ σ.g y=some (.v (Wr.int k) lo))
  (hU:∀w,(underlying U).run F.P w= .ok (.slice E) w) (hE:∀w,(sizeOf E).run F.P w= .ok e.n w):JO F ⟨d,.slice U x (some y) none none,ty,p,af,gd⟩ σ (.n9 i o 0 n' 0) []:=by
 subst hlo hm hmc H2;intro ρ S a w K;obtain⟨b,z,A⟩:=rG (K.slot x (by simp[Op.operands]) _ hx);have h:=(fQ K (x:=y) (by simp[Op.operands]) hy).1;refine UX.value (w':=w) ?_ (WU.same (Mc z));have u:=Cu (P:=F.P) (w:=w) (len:=m) (cap:=m) (k:=k) (lo:=(m:Int)) (by omega) (by omega);simp[execOp,Instr.sliceAt,Instr.slice,A,h,hU,hE,u]
theorem Jr{o n c m m2:Nat}{lo hi:Int}{k k':IntKind}{E:TypeId}(o' n' c':Nat)(hlo:lo=(m:Int))(hhi:hi=(m2:Int))(hm:m<=m2)(hmc:m<c)(hm2:m2<=c)(ho:o'=o+m*e.n)(H2:n'=m2 - m)(L5:c'=c - m)(hx:cZ σ.g x=some (.n9 i o 0 n c))(hy:cZ σ.g y=some (.v (Wr.int k) lo))(hz:cZ σ.g z=some (.v (Wr.int k') hi))
  (hU:∀w,(underlying U).run F.P w= .ok (.slice E) w) (hE:∀w,(sizeOf E).run F.P w= .ok e.n w):JO F ⟨d,.slice U x (some y) (some z) none,ty,p,af,gd⟩ σ (.n9 i o' 0 n' c') []:=by
 subst hlo hhi ho H2 L5;intro ρ S a w K;obtain⟨b,C,D⟩:=rG (K.slot x (by simp[Op.operands]) _ hx);have h:=(fQ K (x:=y) (by simp[Op.operands]) hy).1;have u:=(fQ K (x:=z) (by simp[Op.operands]) hz).1;refine UX.value (w':=w) ?_ (WU.same (Mc C));have A:=BU (P:=F.P) (w:=w) (len:=n) (cap:=c) (k:=k) (k':=k') (lo:=(m:Int)) (hi:=(m2:Int)) (by omega) (by omega) (by omega);have B:¬(c=m):=by omega
 simp[execOp,Instr.sliceAt,Instr.slice,D,h,u,hU,hE,A,B,Addr.add_lit]
theorem Mk{o n c:Nat}{E:TypeId}(hx:cZ σ.g x=some (.n9 i o 0 n c))(hU:∀w,(underlying U).run F.P w= .ok (.slice E) w)(hc:n<=9223372036854775807):JO F ⟨d,.call ⟨.builtin .len,#[x],#[U]⟩,ty,p,af,gd⟩ σ (.v (Wr.int .i64) (n:Int)) []:=by
 intro ρ S a w K;obtain⟨b,u,h⟩:=rG (K.slot x (by simp[Op.operands,Call.operands]) _ hx);refine UX.value (w':=w) (v:= .int .i64 (n:Int)) ?_ (WU.same (sY (Cr hc) _ _ _));simp[execOp,resolve,invoke,builtin,h,Gi hU]
theorem Pv{pp q c o2 c2:Nat}{A M B:List α}{E:TypeId}(he:aW σ.d i=some (.dp (DE.H9 E e b) [.any pp,.rows A,.rows (M++B),.any q] []))(hx:cZ σ.g x=some (.n9 i pp 0 A.length c))(hy:cZ σ.g y=some (.n9 i o2 0 B.length c2))
  (xd:B=[]\/o2=pp+(A.length+M.length)*e.n) (I4:A.length+B.length<=c)
  (hU:∀w,(underlying U).run F.P w= .ok (.slice E) w) (hE:∀w,(sizeOf E).run F.P w= .ok e.n w) (hd:hO d F.N=true):
  JM F ⟨d,.call ⟨.builtin .append,#[x,y],#[U,U]⟩,ty,p,af,gd⟩ σ ⟨iV d (.n9 i pp 0 (A.length+B.length) c) σ.g,(i,.dp (DE.H9 E e b) [.any pp,.rows A,.rows B,.rows [],.any (M.length*e.n+q)] [])::σ.d⟩:=by
 rintro a w ⟨⟨ρ,hc,hs⟩,j8,YE⟩;have K:=cI hc hs (Op.call ⟨.builtin .append,#[x,y],#[U,U]⟩).operands;obtain⟨b1,g1,X⟩:=rG (K.slot x (by simp[Op.operands,Call.operands]) _ hx);obtain⟨b2,g3,Q⟩:=rG (K.slot y (by simp[Op.operands,Call.operands]) _ hy);obtain⟨H,cs,I,h,_,rfl,C,ca,_,rfl,k4,R,_,rfl,k5,S,_,rfl,x8,rfl⟩:=Tt hc he;have e1:b1=b:=by rw[H] at g1;cases g1;rfl
 have e2:b2=b:=by rw[H] at g3;cases g3;rfl
 rw[e1] at X;rw[e2] at Q;have C:h.length=pp:=C;have x8:S.length=q:=x8;have L:=cP k4;have N9:=cP k5;have an:M.length*e.n<=R.length:=by rw[N9,pT,G9];omega
 obtain⟨cm,cb,rfl,hm,kb⟩:∃cm cb,R=cm++cb/\cm.length=M.length*e.n/\e.YG B (Un F.S0 ρ σ.d) w cb:=by
  refine⟨R.take (M.length*e.n),R.drop (M.length*e.n),(V3 _ _).symm,by rw[A6];omega,?_⟩;have:=vJ M.length k5
  rwa [og] at this
 have O:=cP kb;obtain⟨rest,ZG⟩:∃rest,rest=cm++(cb++S):=⟨_,rfl⟩;have V:rest.length=M.length*e.n+(B.length*e.n+q):=by rw[ZG];simp only[pT];omega
 have ly:h++(ca++(cm++cb++(S++[])))=h++ca++rest:=by rw[ZG];simp
 rw[ly] at I;have fin:∀w',(execOp a.eval ⟨d,.call ⟨.builtin .append,#[x,y],#[U,U]⟩,ty,p,af,gd⟩).run F.P w= .ok (.value (.slice (some ⟨b,pp,none⟩) (A.length+B.length) c)) w'->X7 b w w'->
   (∃T,T.length=M.length*e.n+q/\w'.heap[b]? =some (.cells (h++ca++(cb++T)).toArray E (0,0)))->
   UX F.P ⟨d,.call ⟨.builtin .append,#[x,y],#[U,U]⟩,ty,p,af,gd⟩ a w fun v w'=>St F ⟨iV d (.n9 i pp 0 (A.length+B.length) c) σ.g,(i,.dp (DE.H9 E e b) [.any pp,.rows A,.rows B,.rows [],.any (M.length*e.n+q)] [])::σ.d⟩ (a.put d v) w':=by
  rintro w' D hu ⟨T,ae,am⟩;refine UX.value D ?_;obtain⟨q1,q2⟩:=hc.upd (en':= .dp (DE.H9 E e b) [.any pp,.rows A,.rows B,.rows [],.any (M.length*e.n+q)] []) he (.inl (by rw[H];rfl)) hu fun hE=>⟨H,_,am,h,_,by simp,C,ca,_,rfl,Wr.VB k4 hE,cb,_,rfl,Wr.VB kb hE,[],_,rfl,rfl,T,[],rfl,ae,rfl⟩;have aa:∀t s,lk σ.g t=some s->s.ok ρ (Un F.S0 ρ ((i,.dp (DE.H9 E e b) [.any pp,.rows A,.rows B,.rows [],.any (M.length*e.n+q)] [])::σ.d)) w' (a.tmps.getD t undef):=fun t s z=>Slot.UR s _ (hs t s z) q2 (fun _ _=>rfl);refine⟨⟨ρ,q1,fun t s z=>?_⟩,by rw[kM,j8],by cases d<;>exact YE⟩;cases d with
  |none=>exact aa t s z
  |some q0=>
   simp only[iV] at z;have WJ:q0<a.tmps.size:=by rw[j8];exact p8 hd
   rw[kN a q0 _ t WJ];rw[lW] at z;split at z
   ·rename_i G;cases z;rw[VX G];exact Mc H
   ·rename_i G;rw[VN G];exact aa t s z
 by_cases hB:B=[]
 ·subst hB;have ab:cb=[]:=eu (by simpa using O);refine fin w ?_ ⟨rfl,fun _ _=>rfl,rfl,rfl,rfl⟩ ⟨rest,by rw[V];simp,by rw[ab];exact I⟩;have D:=tF (P:=F.P) (w:=w) (U:=U) (E:=E) (tt:=ty) (n:=e.n) (base:=some ⟨b,pp,none⟩) (ad:=some ⟨b,o2,none⟩) (l:=A.length) (c:=c2) (cap:=c) hU hE (by simpa using I4);simp only[V1] at Q;simp[execOp,resolve,invoke,builtin,X,Q,D]
 ·have xd:=xd.resolve_left hB;subst xd;have I7:∀j u,cb[j]? =some u->w.cell? ((⟨b,pp+(A.length+M.length)*e.n,none⟩:Addr).add j)=some u:=by
   have ac:VD w b (h.length+(ca++cm).length) cb:=by
    have G:=VD.of_heap I;have e3:h++ca++rest=(h++(ca++cm))++(cb++S):=by rw[ZG];simp
    rw[e3] at G;have:=G.sub;simpa using this
   intro j u hj;have:=ac.cell j u hj
   rwa [C,pT,L,hm,<-G9] at this
  have L4:pp+A.length*e.n+cb.length<=(h++ca++rest).length:=by simp only[pT,C,L,V,O];omega
  have D:=Ev (P:=F.P) (w:=w) (U:=U) (E:=E) (tt:=ty) (n:=e.n) (g:=b) (off:=pp) (l:=A.length) (cap:=c) (m:=B.length) (c:=c2) (cur:=h++ca++rest) (a:=⟨b,pp+(A.length+M.length)*e.n,none⟩) (news:=cb) hU hE I O I7 (Kw kb) I4 L4;have z:(h++ca++rest).take (pp+A.length*e.n)=h++ca:=by
   have:pp+A.length*e.n=(h++ca).length:=by rw[pT,C,L]
   rw[this];exact yh
  have HN:(h++ca++rest).drop (pp+A.length*e.n+cb.length)=rest.drop cb.length:=by
   have:pp+A.length*e.n=(h++ca).length:=by rw[pT,C,L]
   rw[this,<-aDx,og]
  rw[z,HN,u9] at D;refine fin _ ?_ (X7.setRow w b _) ⟨rest.drop cb.length,by rw[O8,V,O];omega,setRow_heap w b _ _ E _ I⟩;simp[execOp,resolve,invoke,builtin,X,Q,D]
theorem Js{pp q o k c:Nat}{A B:List α}{z0:Value}{zv:α}{E:TypeId}(he:aW σ.d i=some (.dp (DE.H9 E e b) [.any pp,.rows A,.rows B,.rows [],.any q] []))(hx:cZ σ.g x=some (.n9 i o 0 k c))
  (ho:o=pp+(A.length+B.length)*e.n) (hk:k*e.n<=q) (nv:0<k)
  (hU:∀w,(underlying U).run F.P w= .ok (.slice E) w) (hZ:∀w,(zeroValue E).run F.P w= .ok z0 w) (hz:∀S w,e.ok zv S w z0.cells.toList):
  JM F ⟨none,.call ⟨.builtin .clear,#[x],#[U]⟩,ty,p,af,gd⟩ σ ⟨σ.g,(i,.dp (DE.H9 E e b) [.any pp,.rows A,.rows B,.rows [],.any q] [])::σ.d⟩:=by
 subst ho;rintro a w ⟨⟨ρ,T,hs⟩,j8,YE⟩;have K:=cI T hs (Op.call ⟨.builtin .clear,#[x],#[U]⟩).operands;obtain⟨b1,g1,g2⟩:=rG (K.slot x (by simp[Op.operands,Call.operands]) _ hx);obtain⟨O,cs,Q,h,_,rfl,G,z,_,rfl,k4,C,_,rfl,k5,c0,_,rfl,k6,post,_,rfl,H,rfl⟩:=Tt T he;have e1:b1=b:=by rw[O] at g1;cases g1;rfl
 rw[e1] at g2;have G:h.length=pp:=G;have H:post.length=q:=H;have U6:=cP k4;have N9:=cP k5;have h0:c0=[]:=k6;subst h0;have V:z0.cells.size=e.n:=by have:=e.len (hz (fun _=>False) w);simpa using this
 obtain⟨news,R⟩:∃news,news=(Builtin.zeroCells z0.cells k).toList:=⟨_,rfl⟩;have X:news.length=k*e.n:=by rw[R,X6,size_zeroCells,V]
 have y0:∀u∈news,u.oneCell'=true:=rB (Ea (hz (fun _=>False) w) k news X fun i hi=>by rw[R];exact Az (by rw[V];exact hi));obtain⟨D,ly⟩:∃D,D=h++(z++(C++([]++(post++[])))):=⟨_,rfl⟩;rw[<-ly] at Q;have I:D=(h++(z++C))++post:=by rw[ly];simp
 have L:pp+(A.length+B.length)*e.n=(h++(z++C)).length:=by simp only[pT,G,U6,N9,G9]
 have L4:pp+(A.length+B.length)*e.n+news.length<=D.length:=by rw[I,pT,<-L,X];omega
 have M:=run_storeCells_at F.P b (pp+(A.length+B.length)*e.n) E news 0 D.toArray w Q (by simpa using L4) y0;simp only[aDf] at M;have N:D.take (pp+(A.length+B.length)*e.n)=h++(z++C):=by rw[I,L];exact yh
 have HN:D.drop (pp+(A.length+B.length)*e.n+news.length)=post.drop news.length:=by rw[I,L,<-aDx,og]
 rw[N,HN] at M;have XP:(Builtin.clear_ #[U] ty #[.slice (some ⟨b,pp+(A.length+B.length)*e.n,none⟩) k c]).run F.P w= .ok (.tuple #[]) (w.setRow b (h++(z++C)++news++post.drop news.length).toArray):=by
  obtain⟨n',rfl⟩:∃n',k=n'+1:=⟨k - 1,by omega⟩;simp[Builtin.clear_,hU,hZ,<-R,M]
 refine UX.value (v:= .tuple #[]) (w':=w.setRow b (h++(z++C)++news++post.drop news.length).toArray) (by simp[execOp,resolve,invoke,builtin,g2,XP]) ?_;obtain⟨q1,q2⟩:=T.upd (en':= .dp (DE.H9 E e b) [.any pp,.rows A,.rows B,.rows [],.any q] []) he (.inl (by rw[O];rfl)) (X7.setRow w b _) fun hE=>⟨O,_,setRow_heap w b _ (h++(z++C)++news++post.drop news.length).toArray E _ Q,h,_,by simp,G,z,_,rfl,Wr.VB k4 hE,C,_,rfl,Wr.VB k5 hE,[],_,rfl,rfl,news++post.drop news.length,[],rfl,(by show (news++post.drop news.length).length=q;simp only[pT,O8,H];omega),rfl⟩;exact⟨⟨ρ,q1,fun t s N=>Slot.UR s _ (hs t s N) q2 (fun _ _=>rfl)⟩,j8,YE⟩
end
end Go.Sw
namespace Go.Sw
open Go Go.RowKit
theorem UT.aVc{P:Program}{f:FuncId}{ss:List Slot}{vs:List Value}{w:World}{v:Value}{go:Obj}{G:Nat}(hc:UT P f ss [(G,.dp (eA v) go [])] (.v Wr.bool true) [(G,.dp (eA v) go [])])
  (hg:w.cell? ⟨0,0,none⟩=some v) (ho:w.heap[0]? =some go) (hv:aX (fun _=> .of (.pointer (some ⟨0,0,none⟩))) (fun k=>k=0) w ss vs):
  Calls P f vs.toArray w fun e w'=>e= .returned (.bool true)/\Below w.heap.size w w':=by
 have M:0<w.heap.size:=(yq.1 ho).1;have A:∀k,mL (fun _=>LV.of (.pointer (some ⟨0,0,none⟩))) [(G,.dp (eA v) go [])] k↔k=0:=by
  intro k;constructor
  ·rintro⟨i,z,_,h⟩;rcases h with h | h
   ·exact(sM h).symm
   ·exact h.elim
  ·rintro rfl;exact⟨G,.dp (eA v) go [],by rw[cJ];simp,.inl rfl⟩
 have E:Un (fun _=>False) (fun _=>LV.of (.pointer (some ⟨0,0,none⟩))) [(G,.dp (eA v) go [])]=fun k=>k=0:=by
  funext k;exact propext ⟨fun h=>h.elim False.elim (fun h=>(A k).1 h),fun h=> .inr ((A k).2 h)⟩
 have B:∀i z,aW [(G,UU.dp (eA v) go [])] i=some z->i=G/\z=UU.dp (eA v) go []:=by
  intro i z h;rw[cJ] at h;split at h
  ·rename_i e;exact⟨e.symm,(sM h).symm⟩
  ·cases h
 refine Calls.mono (hc (fun _=>False) w vs (fun _=> .of (.pointer (some ⟨0,0,none⟩))) (fun _ h=>h.elim) ⟨?_,?_,fun _ _ _ _ _ h=>h,?_⟩ (by rw[E];exact hv)) ?_
 ·intro i z h;obtain⟨_,rfl⟩:=B i z h;exact⟨⟨rfl,hg⟩,ho⟩
 ·intro i z b h F;have:=(A b).1 ⟨i,z,h,F⟩;omega
 ·intro i j z H b h I _ _;rw[(B i z h).1,(B j H I).1]
 ·rintro e w' ⟨u,ρ',rfl,h⟩;have C:=h.slot;simp only[Slot.ok] at C;rw[zF.1 C];refine⟨rfl,h.os,h.tape,h.output,h.size,fun k K=>?_⟩;by_cases D:k=0
  ·subst D;have:=h.own G (.dp (eA v) go []) (by rw[cJ];simp);rw[this.2,ho]
  ·exact h.frame k K (fun L=>D ((A k).1 L))
end Go.Sw
namespace Go.Sw
open Go Go.RowKit
mutual
theorem Cv:∀s:Slot,s.map id=s
 | .v _ _ | .ref _ | .ptr _ _ | .cq _ _ _ _ | .el _ _ _ _ | .n9 _ _ _ _ _ | .ki _ _ _ _ | .sub _ _ _ | .XA _ _ | .top=>rfl
 | .YV _ c=>by rw[Slot.map,Bc c]
 | .agg l | .VO l=>by rw[Slot.map,Bc l]
theorem Bc:∀l:List Slot,fH id l=l
 | []=>rfl
 |s::l=>by rw[fH,Cv s,Bc l]
end
inductive Kp (g:List (Nat×Slot)):List Nat->List (Nat×Slot)->Prop
 |n:Kp g [] []
 |c {t:Nat} {s:Slot} {ts:List Nat} {g':List (Nat×Slot)}:lk g t=some s->Kp g ts g'->Kp g (t::ts) ((t,s)::g')
inductive Nd:List Nat->List (Nat×UU)->List (Nat×UU)->Prop
 |n {s:List Nat}:Nd s [] []
 |c {s:List Nat} {i:Nat} {en:UU} {r d:List (Nat×UU)}:iD i s=false->Nd (i::s) r d->Nd s ((i,en)::r) ((i,en)::d)
 |s {s:List Nat} {i:Nat} {en:UU} {r d:List (Nat×UU)}:iD i s=true->Nd s r d->Nd s ((i,en)::r) d
theorem Nd.spec{s:List Nat}{r d:List (Nat×UU)}(h:Nd s r d):∀i en,aW d i=some en->i∉s/\aW r i=some en:=by
 induction h with
 |n=>intro i en h;cases h
 | @c s j e r d u _ B=>
  intro i en h;have u:j∉s:=fun x=>by rw[iW.2 x] at u;cases u
  rw[cJ] at h ⊢;split at h
  ·rename_i e;subst e;rw[VX rfl];exact⟨u,h⟩
  ·rename_i e;rw[VN e];obtain⟨z,A⟩:=B i en h;exact⟨fun x=>z (X4 _ x),A⟩
 | @s s j e r d u _ B=>
  intro i en h;obtain⟨z,A⟩:=B i en h;refine⟨z,?_⟩;rw[cJ,VN (fun e:j=i=>z (by rw[<-e];exact iW.1 u))];exact A
theorem Nd.mem{s:List Nat}{r d:List (Nat×UU)}(h:Nd s r d):∀i∈d.map (·.1),i∉s:=by
 induction h with
 |n=>intro i h;cases h
 | @c s j e r d z _ u=>
  intro i h;rcases j4.1 h with rfl | h
  ·exact fun x=>by rw[iW.2 x] at z;cases z
  ·exact fun x=>u i h (X4 _ x)
 |s _ _ u=>exact u
theorem Nd.inj{s:List Nat}{r d:List (Nat×UU)}(h:Nd s r d):Ra id (d.map (·.1))=true:=by
 induction h with
 |n=>rfl
 | @c s j e r d C B u=>
  simp only[D9,Ra,u,Bool.and_true,ZR];intro x A;have:=B.mem x A;cases hb:Nat.beq (id x) (id j) with
  |false=>rfl
  |true=>
   have z:x=j:=o5 hb;exact absurd (by rw[z];exact X5) this
 |s _ _ u=>exact u
theorem Ml{σ:AS}{ls:List Nat}:∀{d:List (Nat×UU)},(∀x∈d,aW σ.d x.1=some x.2)->C0 σ id ls d
 | [],_=> .nil
 | (i,B)::d,h=>by
  have u:=h _ X5;have k:=Ml (ls:=ls) (fun x A=>h x (X4 _ A));have z:∀l:List Slot,R4 σ id ls l l:=by
   intro l
   induction l with
   |nil=>exact .nil
   |cons s l C=>exact .cons (.of_eq (Cv s).symm) C
  cases B with
  |box T l E=>exact .box u (z l) k
  |arr T e xs=>exact .arr u k
  |mp e f m=>exact .mp u k
  |dp D x l=>exact .dp (by simpa using u) k
theorem Kp.sub{σ:AS}{ls ts:List Nat}{g':List (Nat×Slot)}(h:Kp σ.g ts g'):V7 σ id ls g':=by
 induction h with
 |n=>exact .nil
 |c h _ u=>exact .cons h (.of_eq (Cv _).symm) u
theorem Mm{r:Nat->Nat}:∀{d:List (Nat×UU)},Ra id (d.map (·.1))=true->∀x∈d,aW d x.1=some x.2
 | [],_,x,h=>by cases h
 | (i,z)::d,u,x,h=>by
  simp only[D9,Ra,B9,ZR] at u;rw[cJ];rcases j4.1 h with rfl | h
  ·simp
  ·rw[VN,Mm (r:=r) u.2 x h];intro e;have:=u.1 x.1 (ah.2 ⟨x,h,rfl⟩);simp[e] at this
section
variable {F:WK}{ops:Array Oper}{σ σ':AS}
theorem GH{ts dr:List Nat}{g':List (Nat×Slot)}{d':List (Nat×UU)}(hg:Kp σ.g ts g')(hd:Nd dr σ.d d'):Sub F σ ⟨g',d'⟩:=
 Sub.mk id hg.sub (Ml fun x h=>(hd.spec _ _ (Mm (r:=id) hd.inj x h)).2) hd.inj
theorem J.kp(ts dr:List Nat){g':List (Nat×Slot)}{d':List (Nat×UU)}(hg:Kp σ.g ts g':=by repeat (first | exact .n | (apply Kp.c;exact rfl)))
  (hd:Nd dr σ.d d':=by repeat (first | exact .n | (apply Nd.c;exact rfl) | (apply Nd.s;exact rfl))):J F ops [] σ ⟨g',d'⟩:=J.fin (GH hg hd)
theorem aC(r:List (Nat×Nat))(hg:V7 σ (rn r) (σ'.d.map (·.1)) σ'.g:=by repeat (first | exact .nil | refine .c rfl ?_ | refine .cons rfl (.db rfl rfl) ?_))
  (hd:C0 σ (rn r) (σ'.d.map (·.1)) σ'.d:=by repeat (first | exact .nil | refine .arr rfl ?_ | refine .mp rfl ?_ | refine .dp rfl ?_ | refine .box rfl (by repeat (first | exact .nil | refine .c rfl ?_ | refine .cons (.db rfl rfl) ?_)) ?_ | refine .aRh rfl (by repeat (first | exact .nil | refine .c rfl ?_ | refine .cons (.db rfl rfl) ?_)) ?_))
  (hi:Ra (rn r) (σ'.d.map (·.1))=true:=by rfl):Sub F σ σ':=Sub.mk (rn r) hg hd hi
end
end Go.Sw
namespace Go.Sw
open Go Go.RowKit
section
variable {F F':WK}{ops:Array Oper}{o:Oper}{os:List Oper}{σ σ' dh σ1:AS}{s s' s2:Slot}{new VC:List (Nat×UU)}{Q:Exit->Act->World->Prop}{cs:List Code}{OK:List (Nat×UU)->Prop}{its:List YL}{id:Nat}
theorem J.g{t j:Nat}{want x:Bool}(hb:x=want)(h:JO F o σ s new)(k:J F ops os (σ.put o.dst s new) σ')(g:o.guard= .some (j,want):=by rfl)(ht:(ops[j]?).bind (·.dst)= .some t:=by rfl)(hx:lk σ.g t= .some (.v Wr.bool x):=by rfl)(hf:σ.free new=true:=by rfl)(hd:hO o.dst F.N=true:=by rfl):J F ops (o::os) σ σ':=J.cons (.met t g ht hx hb) h hf hd k
theorem WZ.k(h:JO F o σ s new)(k:WZ F ops OK os ⟨iV o.dst s σ.g,new++σ.d⟩ its σ')(g:o.guard= .none:=by rfl)(hd:hO o.dst F.N=true:=by rfl):WZ F ops OK (o::os) σ (⟨s,new,new,Kt σ.g o,[]⟩::its) σ':= .cons (.none g) h hd k
theorem WZ.g{t j:Nat}{want x:Bool}(hb:x=want)(h:JO F o σ s new)(k:WZ F ops OK os ⟨iV o.dst s σ.g,new++σ.d⟩ its σ')(g:o.guard= .some (j,want):=by rfl)(ht:(ops[j]?).bind (·.dst)= .some t:=by rfl)(hx:lk σ.g t= .some (.v Wr.bool x):=by rfl)(hd:hO o.dst F.N=true:=by rfl):WZ F ops OK (o::os) σ (⟨s,new,new,Kt σ.g o,[]⟩::its) σ':= .cons (.met t g ht hx hb) h hd k
theorem WZ.w{t j:Nat}{want x:Bool}(hb:x= !want)(k:WZ F ops OK os ⟨iV o.dst .top σ.g,σ.d⟩ its σ')(g:o.guard= .some (j,want):=by rfl)(ht:(ops[j]?).bind (·.dst)= .some t:=by rfl)(hx:lk σ.g t= .some (.v Wr.bool x):=by rfl)(hd:hO o.dst F.N=true:=by rfl):WZ F ops OK (o::os) σ (⟨.top,[],[],Kt σ.g o,[]⟩::its) σ':= .left (.E5 t g ht hx hb) hd k
def Sy(ops:Array Oper):List Nat:=ops.toList.foldl (fun h o=>h++[(Lp o).foldl (fun m j=>m ||| 1 <<< j ||| h.getD j 0) 0]) []
theorem SY(n:Nat)(hm:F.P.follows .mixedOrders=true)(hp:WZ F ops OK (ops.toList.take n) σ its σ1)(ht:J F ops (ops.toList.drop n) σ1 σ')(hOK:∀L,OK (Bn (fun i=>(its.getD i ⟨.top,[],[],[],[]⟩).nw) (fun i=>(its.getD i ⟨.top,[],[],[],[]⟩).dl) σ.d n L))(k:W F cs σ' Q)
  (hn:Nat.ble n ops.size=true:=by rfl) (O0:Cs ops=true:=by decide+kernel) (xg:Xd ops (Sy ops)=true:=by decide+kernel) (X2:Gs ops n (Sy ops)=true:=by decide+kernel) (xr:FM its (Sy ops)=true:=by kernel_rfl) (me:FN σ its (Sy ops)=true:=by kernel_rfl):
  W F (.region id ops true::cs) σ Q:=NR OK n (Sy ops) hm hp ht hn O0 xg X2 xr me hOK k
theorem eK(n:Nat)(hm:F.P.follows .mixedOrders=true)(hp:WZ F ops (fun _=>True) (ops.toList.take n) σ its σ1)(ht:J F ops (ops.toList.drop n) σ1 σ')(k:W F cs σ' Q)
  (hn:Nat.ble n ops.size=true:=by rfl) (O0:Cs ops=true:=by decide+kernel) (xg:Xd ops (Sy ops)=true:=by decide+kernel) (X2:Gs ops n (Sy ops)=true:=by decide+kernel) (xr:FM its (Sy ops)=true:=by kernel_rfl) (me:FN σ its (Sy ops)=true:=by kernel_rfl):
  W F (.region id ops true::cs) σ Q:=NR _ n (Sy ops) hm hp ht hn O0 xg X2 xr me (fun _=>trivial) k
theorem eM{d:Option Tmp}{ty:TypeId}{p:String}{af:Array Edge}{gd:Option (Nat×Bool)}{f:FuncId}{xs:List Operand}{ts:Array TypeId}{ss:List Slot}{res:Slot}{XG VC:(Nat->Nat)->List (Nat×UU)}{D:List (Nat×UU)}{K:List Nat}(H:List Nat)(r:Nat->Nat)(hr:∀i j,r i=r j->i=j)
  (hc:∀A,UT F.P f ss (XG A) res (VC A)) (XB:∀args w,(callFunc f args).run F.P w= .ok (.enter f args) w) (A4:∀A,YJ σ r A (VC A) D K) (ha:r5 σ r xs ss:=by repeat (first | exact .nil | refine .cons (.dir rfl) ?_))
  (s8:∀A,q7 σ r A (XG A):=by intro _;repeat (first | exact .nil | refine .box rfl ?_ | refine .arr rfl ?_ | refine .mp rfl ?_ | refine .dp rfl ?_))
  (hH:∀A,(XG A).map (fun x=>r x.1)=H:=by intro _;rfl) (XI:Av σ.g (iU σ.d H) H K D=true:=by rfl) (L0:Og σ H D=true:=by rfl) (XP:∀A,kO res (VC A)=true:=by intro _;rfl) (fm:K.all (fun k=>iD k H)=true:=by rfl) (ZC:hO d F.N=true:=by rfl):
  JM F ⟨d,.call ⟨.value (.func f),xs.toArray,ts⟩,ty,p,af,gd⟩ σ ⟨iV d (res.map r) σ.g,D++iU σ.d H⟩:=tW r hr hc XB ha s8 A4 hH XI L0 XP fm ZC
theorem SZ{ops:List Oper}{y:Code}(h:J F ops.toArray ops σ σ')(k:W F (y::cs) σ' Q):W F (.seq (.region id ops.toArray false) y::cs) σ Q:=aG (eG h k)
theorem aT{c:Tmp}{x y:Code}{b:Bool}{α:Type}{p q z:α}(h:(bif b then p else q)=z)(hb:lk σ.g c=some (.v Wr.bool b))(ht:b=true->p=z->W F (x::cs) σ Q)(hf:b=false->q=z->W F (y::cs) σ Q):W F (.cond (.tmp c) x y::cs) σ Q:=
 Ff hb (fun e=>ht e (by subst e;exact h)) fun e=>hf e (by subst e;exact h)
theorem cd{b:Bool}{α:Type}{p q z:α}{P:Prop}(h:(bif b then p else q)=z)(ht:b=true->p=z->P)(hf:b=false->q=z->P):P:=by
 cases b
 ·exact hf rfl h
 ·exact ht rfl h
section
variable {fn:Func}{res:Slot}{t t' t2:Nat}
theorem tJ(g':List (Nat×Slot))(ex:List (Nat×UU))(hs:Sub F' σ ⟨g',ex++VC⟩)(k:XQ F' ⟨g',ex++VC⟩ (zM F fn res VC) .ret):XQ F' σ (zM F fn res VC) .ret:=cB hs k
theorem eU(hF:R3 F F')(r7:fn.results= #[.tmp t])(hs:Sub F' σ ⟨[(t,res)],VC⟩)(hn:w5 VC VC:=by repeat (first | exact .nil | refine .cons rfl ?_)):XQ F' σ (zM F fn res VC) .ret:=cB hs (eH hF r7 (.tmp (by simp[lk])) hn)
theorem GI(hF:R3 F F')(r7:fn.results= #[.tmp t,.tmp t'])(hs:Sub F' σ ⟨[(t,s),(t',s')],VC⟩)(hn:w5 VC VC:=by repeat (first | exact .nil | refine .cons rfl ?_))(h:Nat.beq t t'=false:=by rfl):XQ F' σ (zM F fn (.VO [s,s']) VC) .ret:=
 cB hs (eZ hF r7 (.tmp (by simp[lk])) (.tmp (by simp only[lk,h,yn,pF,WR])) hn)
theorem Mn(hF:R3 F F')(r7:fn.results= #[.tmp t,.tmp t',.tmp t2])(hs:Sub F' σ ⟨[(t,s),(t',s'),(t2,s2)],VC⟩)(hn:w5 VC VC:=by repeat (first | exact .nil | refine .cons rfl ?_))(h:Nat.beq t t'=false:=by rfl)(h2:Nat.beq t t2=false:=by rfl)(h3:Nat.beq t' t2=false:=by rfl):XQ F' σ (zM F fn (.VO [s,s',s2]) VC) .ret:=
 cB hs (FC hF r7 (.tmp (by simp[lk])) (.tmp (by simp only[lk,h,yn,pF,WR])) (.tmp (by simp only[lk,h2,h3,yn,pF,WR])) hn)
end
end
section
variable {F F':WK}{σ:AS}{s s' s2 res:Slot}{new:List (Nat×UU)}{fn:Func}{t t' t2:Nat}
theorem wD(hF:R3 F F')(hR:∀k,¬F.R k)(r7:fn.results= #[.tmp t])(hs:Sub F' σ ⟨[(t,res)],new⟩)(hn:w5 new new:=by repeat (first | exact .nil | refine .cons rfl ?_))(XP:kO res new=true:=by rfl):
  XQ F' σ (Of F fn res new) .ret:=cB hs (aY hF hR r7 (.tmp (by simp[lk])) hn XP)
theorem wE(hF:R3 F F')(hR:∀k,¬F.R k)(r7:fn.results= #[.tmp t,.tmp t'])(hs:Sub F' σ ⟨[(t,s),(t',s')],new⟩)(hn:w5 new new:=by repeat (first | exact .nil | refine .cons rfl ?_))(XP:kO (.VO [s,s']) new=true:=by rfl)(h:Nat.beq t t'=false:=by rfl):
  XQ F' σ (Of F fn (.VO [s,s']) new) .ret:=cB hs (bS hF hR r7 (.tmp (by simp[lk])) (.tmp (by simp only[lk,h,yn,pF,WR])) hn XP)
end
theorem sO{α:Type}{e:Wr α}{x:α}:J2 [.v e x] e x:=J2.one e x
end Go.Sw
namespace Go.Sw
open Go Go.RowKit
def tl{α:Type}:List (Nat×α)->Nat->Option α
 | [],_=>none
 | (i,s)::r,t=>bif Nat.beq i t then some s else tl r t
inductive Tb {α:Type} (p:Nat->α->Prop):List (Nat×α)->Prop
 |n:Tb p []
 |c {i:Nat} {x:α} {l:List (Nat×α)}:p i x->Tb p l->Tb p ((i,x)::l)
theorem Tb.at{α:Type}{p:Nat->α->Prop}{l:List (Nat×α)}(h:Tb p l){i:Nat}{x:α}(hl:tl l i=some x):p i x:=by
 induction h with
 |n=>cases hl
 | @c j y l u _ z=>
  simp only[tl] at hl;cases hb:Nat.beq j i with
  |true=>rw[hb] at hl;cases hl;rw[<-o5 hb];exact u
  |false=>rw[hb] at hl;exact z hl
class fT (P:Program) where
 ag:List (Nat×Bool)
 hg:Tb (fun T v=>∀w,(isAgg T).run P w= .ok v w) ag
 sz:List (Nat×Nat)
 hs:Tb (fun T v=>∀w,(sizeOf T).run P w= .ok v w) sz
 un:List (Nat×TypeDesc)
 hu:Tb (fun T v=>∀w,(underlying T).run P w= .ok v w) un
 et:TypeId
section
variable {F:WK}{ops:Array Oper}{os:List Oper}{σ σ' σ1:AS}{s s0:Slot}{d:Option Tmp}{x y z c:Operand}{ty:TypeId}{p:String}{af:Array Edge}{gd:Option (Nat×Bool)}{pb:Option Nat}
def JA(F:WK)(ops:Array Oper)(n:Nat)(os:List Oper)(σ σ':AS)(Q:Prop):Prop:=Q->J F ops os σ σ'
theorem JA.z0{Q:Prop}(h:Q->J F ops os σ σ'):JA F ops 0 os σ σ' Q:=h
def J1(F:WK)(ops:Array Oper)(o:Oper)(σ σ1:AS):Prop:=∀{os:List Oper} {σ':AS},J F ops os σ1 σ'->J F ops (o::os) σ σ'
theorem JA.s1{Q:Prop}{n:Nat}{o:Oper}(h:J1 F ops o σ σ1)(k:JA F ops n os σ1 σ' Q):JA F ops (n+1) (o::os) σ σ' Q:=fun q=>h (k q)
theorem J1.o{o:Oper}{new:List (Nat×UU)}(h:JO F o σ s new)(g:GK ops σ.g o true)(hf:σ.free new=true)(hd:hO o.dst F.N=true):J1 F ops o σ (σ.put o.dst s new):=fun k=>J.cons g h hf hd k
theorem J1.w{o:Oper}(g:GK ops σ.g o false)(hd:hO o.dst F.N=true):J1 F ops o σ (σ.put o.dst .top []):=fun k=>J.left g hd k
theorem TA{o:Oper}(h:JM F o σ σ1)(g:GK ops σ.g o true):J1 F ops o σ σ1:=fun k=>Yz g h k
theorem QY{g:List (Nat×Slot)}{o:Oper}{j:Nat}{want:Bool}{t:Tmp}{x:Bool}(h:o.guard= .some (j,want))(ht:(ops[j]?).bind (·.dst)= .some t)(hx:lk g t= .some (.v Wr.bool x))(hb:x=want):GK ops g o true:= .met t h ht hx hb
theorem QZ{g:List (Nat×Slot)}{o:Oper}{j:Nat}{want:Bool}{t:Tmp}{x:Bool}(h:o.guard= .some (j,want))(ht:(ops[j]?).bind (·.dst)= .some t)(hx:lk g t= .some (.v Wr.bool x))(hb:x= !want):GK ops g o false:= .E5 t h ht hx hb
section
variable {id:Nat}{cs:List Code}{Q:Exit->Act->World->Prop}
def JW(F:WK)(ops:Array Oper)(os:List Oper)(cs:List Code)(σ:AS)(Q:Exit->Act->World->Prop):Prop:=∃σ',J F ops os σ σ'/\W F cs σ' Q
theorem eN{ops:List Oper}(h:JW F ops.toArray ops cs σ Q):W F (.region id ops.toArray false::cs) σ Q:=by
 obtain⟨_,h,k⟩:=h;exact eG h k
theorem JW.k{o:Oper}{new:List (Nat×UU)}(h:JO F o σ s new)(k:JW F ops os cs (σ.put o.dst s new) Q)(g:o.guard= .none:=by rfl)(hf:σ.free new=true:=by rfl)(hd:hO o.dst F.N=true:=by rfl):JW F ops (o::os) cs σ Q:=by
 obtain⟨σ',u,k⟩:=k;exact⟨σ',J.k h u g hf hd,k⟩
theorem JW.t{o:Oper}(h:JM F o σ σ1)(k:JW F ops os cs σ1 Q)(g:o.guard= .none:=by rfl):JW F ops (o::os) cs σ Q:=by
 obtain⟨σ',u,k⟩:=k;exact⟨σ',J.t h u g,k⟩
theorem JW.sub(h:Sub F σ σ')(k:JW F ops os cs σ' Q):JW F ops os cs σ Q:=by
 obtain⟨_,u,k⟩:=k;exact⟨_,J.sub h u,k⟩
end
section
theorem oL[tb:fT F.P]{T U:TypeId}{l:List Slot}{i off:Nat}(hx:cZ σ.g x=some (.ptr i off))(he:aW σ.d i=some (.box T l pb))(ho:nJ l off=some s)(ha:tl tb.ag U=some s.ag)(hs:tl tb.sz U=some s.sz):JO F ⟨d,.load U x,ty,p,af,gd⟩ σ s []:=aJ hx he ho (tb.hg.at ha) (tb.hs.at hs)
theorem oF[tb:fT F.P]{U:TypeId}{fs:Array Field}{n i off m:Nat}{fl:Field}(hx:cZ σ.g x=some (.ptr i off))(hu:tl tb.un U=some (.struct fs))(hf:fs[n]? =some fl)(hm:tl tb.sz fl.type=some m)(YD:Nat.beq m 0=false):JO F ⟨d,.fieldAddr U x n,ty,p,af,gd⟩ σ (.ptr i (off+fl.offset)) []:=aB _ hx (tb.hu.at hu) hf (tb.hs.at hm) YD (yn _)
theorem oE[tb:fT F.P]{α:Type}{e:Wr α}{xs:List α}{U E:TypeId}(hx:cZ σ.g x=some (.v (Wr.sl e) xs))(hu:tl tb.un U=some (.slice E)):JO F ⟨d,.call ⟨.builtin .len,#[x],#[U]⟩,ty,p,af,gd⟩ σ (.v (Wr.int .i64) xs.length) []:=sA hx (tb.hu.at hu)
theorem TY[tb:fT F.P]{α:Type}{e:Wr α}{xs:List α}{T U E:TypeId}{i:Nat}(hx:cZ σ.g x=some (.ref i))(he:aW σ.d i=some (.arr T e xs))(hu:tl tb.un U=some (.slice E)):JO F ⟨d,.call ⟨.builtin .len,#[x],#[U]⟩,ty,p,af,gd⟩ σ (.v (Wr.int .i64) xs.length) []:=Qy hx he (tb.hu.at hu)
theorem oP[tb:fT F.P]{α:Type}{e:Wr α}{v:α}{U:TypeId}(hx:cZ σ.g x=some (.XA e v))(ha:tl tb.ag U=some e.agg)(hs:tl tb.sz U=some e.n):JO F ⟨d,.load U x,ty,p,af,gd⟩ σ (.v e v) []:=bO hx (tb.hg.at ha) (tb.hs.at hs)
theorem oI[tb:fT F.P]{α:Type}{e:Wr α}{xs:List α}{v:α}{U E:TypeId}{k:IntKind}{n:Int}(hx:cZ σ.g x=some (.v (Wr.sl e) xs))(hy:cZ σ.g y=some (.v (Wr.int k) n))(hz:Sw.idx xs n=some v)(hu:tl tb.un U=some (.slice E))(hm:tl tb.sz E=some e.n):JO F ⟨d,.indexAddr U x y,ty,p,af,gd⟩ σ (.XA e v) []:=gO hz hx hy (tb.hu.at hu) (tb.hs.at hm)
theorem oN[tb:fT F.P]{T U U':TypeId}{o:Option Int}{ms:Array (String×TypeId)}(hx:cZ σ.g x=some (.v (Wr.err T) o))(hu:tl tb.un U=some (.interface ms)):JO F ⟨d,.binOp .neq U x (.const .nilIface) U',ty,p,af,gd⟩ σ (.v Wr.bool o.isSome) []:=ER (tb.hu.at hu) hx
theorem oK[tb:fT F.P]{T:TypeId}{n:Int}(hx:cZ σ.g x=some (.v (Wr.int .i64) n))(hu:tl tb.un T=some (.int .i64)):JO F ⟨d,.makeInterface T x,ty,p,af,gd⟩ σ (.v (Wr.err T) (some n)) []:=EP (tb.hu.at hu) hx
theorem oZ[tb:fT F.P]:JO F ⟨d,.assign (.const .nilIface),ty,p,af,gd⟩ σ (.v (Wr.err tb.et) none) []:=yV _
theorem oV[tb:fT F.P]{A B:TypeId}{da:TypeDesc}{k k':IntKind}{n:Int}(hx:cZ σ.g x=some (.v (Wr.int k) n))(ha:tl tb.un A=some da)(hb:tl tb.un B=some (.int k')):JO F ⟨d,.convert A B x,ty,p,af,gd⟩ σ (.v (Wr.int k') (k'.wrap n)) []:=Zc (tb.hu.at ha) (tb.hu.at hb) hx
theorem oS[tb:fT F.P]{T U n:TypeId}{l:List Slot}{i off:Nat}(hx:cZ σ.g x=some (.ptr i off))(he:aW σ.d i=some (.box T l pb))(ho:nJ l off=some s0)(hy:cZ σ.g y=some s)(hp:s.plain=true)(hn:tl tb.sz U=some n)(j8:Nat.beq s.sz n=true)(F8:Nat.beq s0.sz n=true):
  JM F ⟨none,.store U x y,ty,p,af,gd⟩ σ ⟨σ.g,(i,.box T (nU l off s) pb)::σ.d⟩:=Tm hx he ho hy hp j8 F8 (tb.hs.at hn)
theorem oW[tb:fT F.P]{T U n:TypeId}{l l':List Slot}{i:Nat}(hx:cZ σ.g x=some (.ptr i 0))(he:aW σ.d i=some (.box T l pb))(hy:cZ σ.g y=some (.agg l'))(hn:tl tb.sz U=some n)(hl:(l.map Slot.sz).sum=n)(P6:(l'.map Slot.sz).sum=n)(hnt:l'.all Slot.plain=true):
  JM F ⟨none,.store U x y,ty,p,af,gd⟩ σ ⟨σ.g,(i,.box T l' pb)::σ.d⟩:=Jk hx he hl hy P6 hnt (tb.hs.at hn)
theorem oT{b:Bool}(hc:cZ σ.g c=some (.v Wr.bool b))(hb:b=true)(hx:cZ σ.g x=some s):JO F ⟨d,.pick c x y,ty,p,af,gd⟩ σ s []:=zK hb hc hx
theorem oU{b:Bool}(hc:cZ σ.g c=some (.v Wr.bool b))(hb:b=false)(hx:cZ σ.g y=some s):JO F ⟨d,.pick c x y,ty,p,af,gd⟩ σ s []:=zL hb hc hx
theorem jo{o:Oper}{new:List (Nat×UU)}(k:JO F o σ s new:=by first
 | ((with_reducible apply aD);exact rfl)
 | ((with_reducible apply bP);exact rfl)
 | ((with_reducible apply oF);exact rfl;exact rfl;exact rfl;exact rfl;exact rfl)
 | ((with_reducible apply oL);exact rfl;exact rfl;exact rfl;exact rfl;exact rfl)
 | ((with_reducible apply nB);exact rfl;exact rfl;exact rfl)
 | ((with_reducible apply aL);exact rfl)
 | ((with_reducible apply bW);exact rfl;exact rfl)
 | ((with_reducible apply cT);exact rfl;exact rfl;exact rfl)
 | ((with_reducible apply oE);exact rfl;exact rfl)
 | ((with_reducible apply oI);exact rfl;exact rfl;assumption;exact rfl;exact rfl)
 | ((with_reducible apply oP);exact rfl;exact rfl;exact rfl)
 | ((with_reducible apply oN);exact rfl;exact rfl)
 | ((with_reducible apply oT);exact rfl;(first | assumption | exact rfl);exact rfl)
 | ((with_reducible apply oU);exact rfl;(first | assumption | exact rfl);exact rfl)
 | ((with_reducible apply oZ))
 | ((with_reducible apply oK);exact rfl;exact rfl)
 | ((with_reducible apply oV);exact rfl;exact rfl;exact rfl)
 | ((with_reducible apply Ii);exact rfl)
 | ((with_reducible apply TY);exact rfl;exact rfl;exact rfl)):JO F o σ s new:=k
theorem gk{g:List (Nat×Slot)}{o:Oper}(k:GK ops g o true:=by first
 |exact GK.none rfl
 |exact QY rfl rfl rfl (by first | assumption | exact rfl)):GK ops g o true:=k
theorem gu{g:List (Nat×Slot)}{o:Oper}(k:GK ops g o false:=by exact QZ rfl rfl rfl (by first | assumption | exact rfl)):GK ops g o false:=k
theorem jm{o:Oper}(k:JM F o σ σ1:=by first
 | ((with_reducible apply oS);exact rfl;exact rfl;exact rfl;exact rfl;exact rfl;exact rfl;exact rfl;exact rfl)
 | ((with_reducible apply oW);exact rfl;exact rfl;exact rfl;exact rfl;exact rfl;exact rfl;exact rfl)):JM F o σ σ1:=k
theorem js{o:Oper}(k:J1 F ops o σ σ1:=by first
 | (apply J1.o;exact jo;exact gk;exact rfl;exact rfl)
 | (apply J1.w;exact gu;exact rfl)
 | (apply TA;exact jm;exact gk)):J1 F ops o σ σ1:=k
theorem ja(n:Nat){Q:Prop}(k:Q)(h:JA F ops n os σ σ' Q:=by
 repeat ((with_reducible apply JA.s1);exact js)
 exact JA.z0 fun q=>q):J F ops os σ σ':=h k
def JZ(F:WK)(ops:Array Oper)(ts:List Nat)(os:List Oper)(σ σ':AS):Prop:=J F ops os σ σ'
theorem JZ.s1{ts:List Nat}{o:Oper}(h:J1 F ops o σ σ1)(k:JZ F ops ts os σ1 σ'):JZ F ops ts (o::os) σ σ':=h k
theorem JZ.z0{ts:List Nat}{g':List (Nat×Slot)}{d':List (Nat×UU)}(hg:Kp σ.g ts g')(hd:Nd [] σ.d d'):JZ F ops ts [] σ ⟨g',d'⟩:=J.fin (GH hg hd)
theorem jz(ts:List Nat)(h:JZ F ops ts os σ σ':=by
 repeat (apply JZ.s1;exact js)
 apply JZ.z0
 ·repeat (first | exact .n | (apply Kp.c;exact rfl))
 ·repeat (first | exact .n | (apply Nd.c;exact rfl) | (apply Nd.s;exact rfl))):J F ops os σ σ':=h
theorem jy(h:JZ F ops [] os σ σ':=by
 repeat (apply JZ.s1;exact js)
 exact J.fin (aC [])):J F ops os σ σ':=h
variable {OK:List (Nat×UU)->Prop}{it:YL}{its:List YL}{id:Nat}{cs:List Code}{Q:Exit->Act->World->Prop}
def P1(F:WK)(ops:Array Oper)(OK:List (Nat×UU)->Prop)(o:Oper)(σ σ1:AS)(it:YL):Prop:=∀{os:List Oper} {σ':AS} {its:List YL},WZ F ops OK os σ1 its σ'->WZ F ops OK (o::os) σ (it::its) σ'
theorem P1.o{o:Oper}{new:List (Nat×UU)}(h:JO F o σ s new)(g:GK ops σ.g o true)(hd:hO o.dst F.N=true):P1 F ops OK o σ ⟨iV o.dst s σ.g,new++σ.d⟩ ⟨s,new,new,Kt σ.g o,[]⟩:=fun k=> .cons g h hd k
theorem P1.w{o:Oper}(g:GK ops σ.g o false)(hd:hO o.dst F.N=true):P1 F ops OK o σ ⟨iV o.dst .top σ.g,σ.d⟩ ⟨.top,[],[],Kt σ.g o,[]⟩:=fun k=> .left g hd k
theorem RA[tb:fT F.P]{T U n:TypeId}{l:List Slot}{i off:Nat}(g:GK ops σ.g ⟨none,.store U x y,ty,p,af,gd⟩ true)(hx:cZ σ.g x=some (.ptr i off))(he:aW σ.d i=some (.box T l pb))(ho:nJ l off=some s0)(hy:cZ σ.g y=some s)(hp:s.plain=true)(hn:tl tb.sz U=some n)(j8:Nat.beq s.sz n=true)(F8:Nat.beq s0.sz n=true):
  P1 F ops OK ⟨none,.store U x y,ty,p,af,gd⟩ σ ⟨σ.g,(i,.box T (nU l off s) pb)::σ.d⟩ ⟨.top,[(i,.box T (nU l off s) pb)],[],Kt σ.g ⟨none,.store U x y,ty,p,af,gd⟩,[]⟩:=fun k=>WZ.store g hx he ho hy hp j8 F8 (tb.hs.at hn) k
theorem p1{o:Oper}(k:P1 F ops OK o σ σ1 it:=by first
 | (apply P1.o;exact jo;exact gk;exact rfl)
 | (apply P1.w;exact gu;exact rfl)
 | ((with_reducible apply RA);exact gk;exact rfl;exact rfl;exact rfl;exact rfl;exact rfl;exact rfl;exact rfl;exact rfl)):P1 F ops OK o σ σ1 it:=k
theorem WZ.s1{o:Oper}(h:P1 F ops OK o σ σ1 it)(k:WZ F ops OK os σ1 its σ'):WZ F ops OK (o::os) σ (it::its) σ':=h k
theorem LC(n:Nat)(ts:List Nat)(hm:F.P.follows .mixedOrders=true)(k:W F cs σ' Q)(hp:WZ F ops (fun _=>True) (ops.toList.take n) σ its σ1:=by
  repeat (apply WZ.s1;exact p1)
  exact .nil) (ht:JZ F ops ts (ops.toList.drop n) σ1 σ':=by
  repeat (apply JZ.s1;exact js)
  apply JZ.z0
  ·repeat (first | exact .n | (apply Kp.c;exact rfl))
  ·repeat (first | exact .n | (apply Nd.c;exact rfl) | (apply Nd.s;exact rfl)))
  (hn:Nat.ble n ops.size=true:=by rfl) (O0:Cs ops=true:=by decide+kernel) (xg:Xd ops (Sy ops)=true:=by decide+kernel) (X2:Gs ops n (Sy ops)=true:=by decide+kernel) (xr:FM its (Sy ops)=true:=by kernel_rfl) (me:FN σ its (Sy ops)=true:=by kernel_rfl):
  W F (.region id ops true::cs) σ Q:=eK n hm hp ht k hn O0 xg X2 xr me
theorem vK(n:Nat)(hm:F.P.follows .mixedOrders=true)(k:W F cs σ' Q)(hp:WZ F ops (fun _=>True) (ops.toList.take n) σ its σ1:=by
  repeat (apply WZ.s1;exact p1)
  exact .nil) (ht:JZ F ops [] (ops.toList.drop n) σ1 σ':=by
  repeat (apply JZ.s1;exact js)
  exact J.fin (aC []))
  (hn:Nat.ble n ops.size=true:=by rfl) (O0:Cs ops=true:=by decide+kernel) (xg:Xd ops (Sy ops)=true:=by decide+kernel) (X2:Gs ops n (Sy ops)=true:=by decide+kernel) (xr:FM its (Sy ops)=true:=by kernel_rfl) (me:FN σ its (Sy ops)=true:=by kernel_rfl):
  W F (.region id ops true::cs) σ Q:=eK n hm hp ht k hn O0 xg X2 xr me
theorem JW.f(ts:List Nat)(k:W F cs σ' Q)(h:JZ F ops ts os σ σ':=by
 repeat (apply JZ.s1;exact js)
 apply JZ.z0
 ·repeat (first | exact .n | (apply Kp.c;exact rfl))
 ·repeat (first | exact .n | (apply Nd.c;exact rfl) | (apply Nd.s;exact rfl))):JW F ops os cs σ Q:=⟨_,h,k⟩
def JWA(F:WK)(ops:Array Oper)(n:Nat)(os:List Oper)(cs:List Code)(σ:AS)(Q:Exit->Act->World->Prop)(R:Prop):Prop:=R->JW F ops os cs σ Q
theorem JWA.s1{R:Prop}{n:Nat}{o:Oper}(h:J1 F ops o σ σ1)(k:JWA F ops n os cs σ1 Q R):JWA F ops (n+1) (o::os) cs σ Q R:=fun r=>by
 obtain⟨σ',u,k⟩:=k r;exact⟨σ',h u,k⟩
theorem JWA.z0:JWA F ops 0 os cs σ Q (JW F ops os cs σ Q):=fun r=>r
theorem JW.a(n:Nat){R:Prop}(k:R)(h:JWA F ops n os cs σ Q R:=by
 repeat ((with_reducible apply JWA.s1);exact js)
 exact JWA.z0):JW F ops os cs σ Q:=h k
theorem dN{ops:List Oper}(ts:List Nat)(k:W F cs σ' Q)(h:JZ F ops.toArray ts ops σ σ':=by
 repeat (apply JZ.s1;exact js)
 apply JZ.z0
 ·repeat (first | exact .n | (apply Kp.c;exact rfl))
 ·repeat (first | exact .n | (apply Nd.c;exact rfl) | (apply Nd.s;exact rfl))):W F (.region id ops.toArray false::cs) σ Q:=eG h k
theorem aK{ops:List Oper}{y:Code}(ts:List Nat)(k:W F (y::cs) σ' Q)(h:JZ F ops.toArray ts ops σ σ':=by
 repeat (apply JZ.s1;exact js)
 apply JZ.z0
 ·repeat (first | exact .n | (apply Kp.c;exact rfl))
 ·repeat (first | exact .n | (apply Nd.c;exact rfl) | (apply Nd.s;exact rfl))):W F (.seq (.region id ops.toArray false) y::cs) σ Q:=aG (eG h k)
theorem dB{ops:List Oper}{y z:Code}(ts:List Nat)(k:W F (y::z::cs) σ' Q)(h:JZ F ops.toArray ts ops σ σ':=by
 repeat (apply JZ.s1;exact js)
 apply JZ.z0
 ·repeat (first | exact .n | (apply Kp.c;exact rfl))
 ·repeat (first | exact .n | (apply Nd.c;exact rfl) | (apply Nd.s;exact rfl))):W F (.seq (.seq (.region id ops.toArray false) y) z::cs) σ Q:=aG (aG (eG h k))
theorem aI{ops:List Oper}{y:Code}(h:JW F ops.toArray ops (y::cs) σ Q):W F (.seq (.region id ops.toArray false) y::cs) σ Q:=aG (eN h)
theorem jJ{ops:List Oper}{y z:Code}(h:JW F ops.toArray ops (y::z::cs) σ Q):W F (.seq (.seq (.region id ops.toArray false) y) z::cs) σ Q:=aG (aG (eN h))
end
end
end Go.Sw
namespace Go.Mo
open Go Go.Sw
abbrev aR:=List Int
abbrev aQ:Wr aR:=Wr.arr 8 (Wr.int .u8)
def aU:aR:=List.replicate 8 0
abbrev dD:=((Unit×Unit) ⊕ ((Unit×Unit) ⊕ (Unit×Unit)))
abbrev gC(a p:Nat):Wr dD:=(qE (Wr.I8 206 (Wr.e9 a) jY) (qE (Wr.I8 207 (Wr.e9 a) jY) (Wr.I8 208 jY (Wr.e9 p)) rfl rfl rfl rfl) rfl rfl rfl rfl)
abbrev dF:=((Unit×(Unit×Int)) ⊕ (Unit×Unit))
abbrev iC(a p:Nat):Wr dF:=(qE (Wr.I8 249 jY (Wr.pr (Wr.e9 p) (Wr.pt (Wr.int .u8)))) (Wr.I8 207 (Wr.e9 a) jY) rfl rfl rfl rfl)
abbrev aE:=((Unit×(Unit×(List (Int×aR)))) ⊕ ((Unit×(Unit×(Int×(Int×aR)))) ⊕ ((Unit×(Unit×(Int×(Int×aR)))) ⊕ ((Unit×Unit) ⊕ ((Unit×Unit) ⊕ ((Unit×Unit) ⊕ ((Unit×Unit) ⊕ (Unit×Unit))))))))
abbrev bM(a p:Nat):Wr aE:=(qE (Wr.I8 214 jY (Wr.pr (Wr.e9 p) (Wr.pt (Wr.sl (Wr.pr (Wr.int .i64) aQ))))) (qE (Wr.I8 216 jY (Wr.pr (Wr.e9 p) (Wr.pr (Wr.pt (Wr.int .i64)) (Wr.pt (Wr.pr (Wr.int .i64) aQ))))) (qE (Wr.I8 217 jY (Wr.pr (Wr.e9 p) (Wr.pr (Wr.pt (Wr.int .i64)) (Wr.pt (Wr.pr (Wr.int .i64) aQ))))) (qE (Wr.I8 207 (Wr.e9 a) jY) (qE (Wr.I8 218 jY (Wr.e9 p)) (qE (Wr.I8 206 (Wr.e9 a) jY) (qE (Wr.I8 207 (Wr.e9 a) jY) (Wr.I8 219 jY (Wr.e9 p)) rfl rfl rfl rfl) rfl rfl rfl rfl) rfl rfl rfl rfl) rfl rfl rfl rfl) rfl rfl rfl rfl) rfl rfl rfl rfl) rfl rfl rfl rfl)
abbrev lH:=(Unit ⊕ (((Option ((List aR)×(List (aR×(List Int)))))) ⊕ (((List aR)) ⊕ (Unit ⊕ Unit))))
abbrev AB:Wr lH:=(vE 322 jY (vE 324 (Wr.F6 (Wr.B3 (Wr.pr (Wr.sl aQ) (Wr.S9 aQ (Wr.sl (Wr.int .i64)))))) (vE 326 (Wr.F6 (Wr.sl aQ)) (vE 327 jY KV rfl rfl) rfl rfl) rfl rfl) rfl rfl)
abbrev dK:=((List aR)×(List (Int×aR))×Int)
abbrev pO:=(Int×(List (Int×aR))×(List (Int×(List (Int×aR))))×Bool)
abbrev qF:=(Int×Int×(List (Int×(List Int)×(List aR))))
abbrev mN:=(List (Bool×Bool×(List Int)))
abbrev eP:=(List aR)
abbrev cY:=(List Int)
abbrev mF:=(List (Int×aR))
abbrev Oj:=(Int×Int×Int×aR)
abbrev rX:=(List (Int×eP))
abbrev rH:=(Int×Int)
abbrev wK:=(List (Int×cY×eP))
abbrev Is:=(List (Int×aR×Int×Int×Int×eP))
abbrev sB:=(List (Int×mF))
abbrev dT:=(Option Int)
abbrev mO:=(List Oj)
def lI(a0 a1:Int):Option (Int):=
 jp (fun (u:Int)=>
  (nz a1).bind fun _=>
   some (ar .rem .i64 u a1)
  ) fun h=>
 bif (cm .lss a0 0) then
  h (IntKind.wrap .i64 (0 - (ar .add .i64 a0 1)))
 else
  h a0
def tK(a0:cY)(a1:Int):Option (Int):=
 bif (cm .eql (a0.length:Int) 0) then
  some (ar .mul .i64 a1 31)
 else
  (nz (a0.length:Int)).bind fun _=>
   (Sw.idx a0 (ar .rem .i64 a1 (a0.length:Int))).bind fun h=>
    (lI h 1000003).bind fun u=>
     (nz (a0.length:Int)).bind fun _=>
      some (ar .add .i64 u (ar .mul .i64 (ar .quo .i64 a1 (a0.length:Int)) 7919))
def kC(a0:cY)(a1:Int):Option (aR):=
 (tK a0 a1).bind fun u=>
  bif (cm .eql (ar .rem .i64 u 3) 0) then
   some aU
  else
   (Sw.idx aU 0).bind fun _=>
    jp (fun (A:aR)=>
     some A
     ) fun z=>
    bif (cm .eql (ar .rem .i64 u 3) 2) then
     lp (β:=aR) (fun (h:Int×aR)=>
      bif (cm .lss h.1 8) then
       (tK a0 (ar .add .i64 a1 h.1)).bind fun B=>
        (Sw.idx h.2 h.1).bind fun _=>
         some (.next ((ar .add .i64 h.1 1),(List.set h.2 (Int.toNat h.1) (IntKind.wrap .u8 (ar .quo .i64 B 7)))))
      else
       some (.done (.VP h.2))
      ) (1,(List.set aU (Int.toNat 0) (IntKind.wrap .u8 (ar .add .i64 1 (ar .rem .i64 (ar .quo .i64 u 3) 5))))) fun (C:aR)=>
     z C
    else
     z (List.set aU (Int.toNat 0) (IntKind.wrap .u8 (ar .add .i64 1 (ar .rem .i64 (ar .quo .i64 u 3) 5))))
def lB(a0:cY)(a1 a2 a3:Int):Option (mO):=
 lp (β:=mO) (fun (u:Int×mO)=>
  bif (cm .lss u.1 a2) then
   (tK a0 (ar .add .i64 a1 u.1)).bind fun h=>
    (nz a3).bind fun _=>
     jp (fun (D:Bool)=>
      bif D then
       (kC a0 (ar .add .i64 a1 (ar .mul .i64 3 u.1))).bind fun E=>
        (Sw.app u.2 ([(0,(ar .rem .i64 (ar .quo .i64 h 40) a3),(ar .rem .i64 (ar .quo .i64 h 7) 90),E)]:mO)).bind fun F=>
         some (.next ((ar .add .i64 u.1 1),F))
      else
       bif (cm .eql (ar .rem .i64 h 20) 5) then
        (Sw.app u.2 ([(1,(ar .rem .i64 (ar .quo .i64 h 40) a3),(ar .rem .i64 (ar .quo .i64 h 7) 90),aU)]:mO)).bind fun G=>
         some (.next ((ar .add .i64 u.1 1),G))
       else
        bif (cm .eql (ar .rem .i64 h 20) 6) then
         (Sw.app u.2 ([(2,(ar .rem .i64 (ar .quo .i64 h 40) a3),(ar .rem .i64 (ar .quo .i64 h 7) 90),aU)]:mO)).bind fun H=>
          some (.next ((ar .add .i64 u.1 1),H))
        else
         jp (fun (I:Bool)=>
          bif I then
           (Sw.app u.2 ([(3,(ar .rem .i64 (ar .quo .i64 h 40) a3),(ar .rem .i64 (ar .quo .i64 h 7) 90),aU)]:mO)).bind fun K=>
            some (.next ((ar .add .i64 u.1 1),K))
          else
           jp (fun (L:Bool)=>
            bif L then
             (Sw.app u.2 ([(4,(ar .rem .i64 (ar .quo .i64 h 40) a3),(ar .rem .i64 (ar .quo .i64 h 7) 90),aU)]:mO)).bind fun M=>
              some (.next ((ar .add .i64 u.1 1),M))
            else
             jp (fun (N:Bool)=>
              bif N then
               (Sw.app u.2 ([(5,(ar .rem .i64 (ar .quo .i64 h 40) 7),(ar .rem .i64 (ar .quo .i64 h 7) 90),aU)]:mO)).bind fun O=>
                some (.next ((ar .add .i64 u.1 1),O))
              else
               bif (cm .eql (ar .rem .i64 h 20) 16) then
                (Sw.app u.2 ([(6,(ar .rem .i64 (ar .quo .i64 h 40) 7),(ar .rem .i64 (ar .quo .i64 h 7) 90),aU)]:mO)).bind fun P=>
                 some (.next ((ar .add .i64 u.1 1),P))
               else
                bif (cm .eql (ar .rem .i64 h 20) 17) then
                 (Sw.app u.2 ([(7,(ar .rem .i64 (ar .quo .i64 h 40) 7),(ar .rem .i64 (ar .quo .i64 h 7) 90),aU)]:mO)).bind fun Q=>
                  some (.next ((ar .add .i64 u.1 1),Q))
                else
                 bif (cm .eql (ar .rem .i64 h 20) 18) then
                  (kC a0 (ar .add .i64 a1 (ar .mul .i64 2 u.1))).bind fun R=>
                   (Sw.app u.2 ([(10,(ar .rem .i64 (ar .quo .i64 h 40) 7),(ar .rem .i64 (ar .quo .i64 h 7) 90),R)]:mO)).bind fun S=>
                    some (.next ((ar .add .i64 u.1 1),S))
                 else
                  (Sw.app u.2 ([((ar .add .i64 8 (ar .rem .i64 (ar .quo .i64 h 40) 2)),(ar .rem .i64 (ar .quo .i64 h 40) a3),(ar .rem .i64 (ar .quo .i64 h 7) 90),aU)]:mO)).bind fun T=>
                   some (.next ((ar .add .i64 u.1 1),T))
              ) fun A=>
             bif (cm .eql (ar .rem .i64 h 20) 13) then
              A (cm .eql (ar .rem .i64 h 20) 13)
             else
              bif (cm .eql (ar .rem .i64 h 20) 14) then
               A (cm .eql (ar .rem .i64 h 20) 14)
              else
               A (cm .eql (ar .rem .i64 h 20) 15)
            ) fun B=>
           bif (cm .eql (ar .rem .i64 h 20) 10) then
            B (cm .eql (ar .rem .i64 h 20) 10)
           else
            bif (cm .eql (ar .rem .i64 h 20) 11) then
             B (cm .eql (ar .rem .i64 h 20) 11)
            else
             B (cm .eql (ar .rem .i64 h 20) 12)
          ) fun C=>
         bif (cm .eql (ar .rem .i64 h 20) 7) then
          C (cm .eql (ar .rem .i64 h 20) 7)
         else
          bif (cm .eql (ar .rem .i64 h 20) 8) then
           C (cm .eql (ar .rem .i64 h 20) 8)
          else
           C (cm .eql (ar .rem .i64 h 20) 9)
      ) fun z=>
     bif (cm .eql (ar .rem .i64 h 20) 0) then
      z (cm .eql (ar .rem .i64 h 20) 0)
     else
      bif (cm .eql (ar .rem .i64 h 20) 1) then
       z (cm .eql (ar .rem .i64 h 20) 1)
      else
       bif (cm .eql (ar .rem .i64 h 20) 2) then
        z (cm .eql (ar .rem .i64 h 20) 2)
       else
        bif (cm .eql (ar .rem .i64 h 20) 3) then
         z (cm .eql (ar .rem .i64 h 20) 3)
        else
         z (cm .eql (ar .rem .i64 h 20) 4)
  else
   some (.done (.VP u.2))
  ) (0,([]:mO)) fun (U:mO)=>
 some U
def rI(a0:Int):Option (Int×dT):=
 (bif (cm .lss a0 1) then
  some true
 else
  some (cm .gtr a0 32)).bind fun h=>
  bif h then
   some (0,(some 1))
  else
   some ((ar .add .i64 (ar .add .i64 (ar .add .i64 a0 1) 2) (ar .mul .i64 2 (ar .add .i64 a0 1))),(none:Option Int))
def xF(a0:Int):Option (dK×dT):=
 (bif (cm .lss a0 1) then
  some true
 else
  some (cm .gtr a0 200)).bind fun h=>
  bif h then
   some ((([]:eP),([]:mF),0),(some 1))
  else
   (Sw.mk a0 aU).bind fun u=>
    some ((u,([]:mF),(-1:Int)),(none:Option Int))
def qT(a0:Int):Option (dK×dT):=
 (rI a0).bind fun h=>
  bif (Option.isSome h.2) then
   some ((([]:eP),([]:mF),0),h.2)
  else
   (xF h.1).bind fun u=>
    some (u.1,u.2)
def lJ(a0:(Int×aR))(a1:dK):Option (Bool):=
 (bif (cm .lss a0.1 0) then
  some true
 else
  some (cm .geq a0.1 (a1.1.length:Int))).bind fun h=>
  some h
def dH(a0:mF)(WQ:dK):Option (Int):=
 lp (β:=Unit) (fun (h:Int)=>
  bif (cm .lss h (a0.length:Int)) then
   (Sw.idx a0 h).bind fun u=>
    (lJ u WQ).bind fun z=>
     bif z then
      some (.done (.ret h))
     else
      some (.next (ar .add .i64 h 1))
  else
   some (.done (.VP ()))
  ) 0 fun (_:Unit)=>
 some (-1:Int)
def cH(a0:mF)(WQ:dK):Option (Bool):=
 (dH a0 WQ).bind fun h=>
  some (cm .geq h 0)
def mP(a0:dK):Option (dT):=
 (bif (cm .lss (a0.1.length:Int) 1) then
  some true
 else
  bif (cm .gtr (a0.1.length:Int) 200) then
   some true
  else
   some (cm .gtr (a0.2.1.length:Int) 800)).bind fun h=>
  bif h then
   some (some 2)
  else
   (cH a0.2.1 a0).bind fun u=>
    bif u then
     some (some 1)
    else
     some (none:Option Int)
def jU(a0:(Bool×eP)):Option (eP):=
 bif a0.1 then
  some ([]:eP)
 else
  (Sw.app ([]:eP) a0.2).bind fun h=>
   some h
def aO(a0:eP):Option eP:=Sw.app [] a0
def fM(a0:mF):Option (mF):=
 some a0
def iN(a0:dK)(a1:Int):Option (aR×dT):=
 (mP a0).bind fun h=>
  bif (Option.isSome h) then
   some (aU,h)
  else
   (bif (cm .lss a1 0) then
    some true
   else
    some (cm .geq a1 (a0.1.length:Int))).bind fun A=>
    bif A then
     some (aU,(some 1))
    else
     bif (cm .eql a0.2.2 0) then
      some (aU,(some 4))
     else
      (fM a0.2.1).bind fun u=>
       (Sw.small u).bind fun _=>
        rg (δ:=aR) (fun (z:(Int×(Int×aR))) (_:Unit)=>
         bif (cm .eql z.2.1 a1) then
          some (.done z.2.2)
         else
          some (.next ())
         ) (Sw.D4 u) () (fun (_:Unit)=>
         (Sw.idx a0.1 a1).bind fun B=>
          some (B,(none:Option Int))
         ) fun (C:aR)=>
         some (C,(none:Option Int))
def gM(a0:aR):Option (Int):=
 (Sw.idx a0 0).bind fun h=>
  (Sw.idx a0 1).bind fun u=>
   (Sw.idx a0 2).bind fun z=>
    (Sw.idx a0 3).bind fun A=>
     some (ar .or .i64 (ar .or .i64 (ar .or .i64 (sh .shl .i64 h 24) (sh .shl .i64 u 16)) (sh .shl .i64 z 8)) A)
def lK(a0:(Bool×mF)):Option (mF):=
 bif a0.1 then
  some ([]:mF)
 else
  (Sw.app ([]:mF) a0.2).bind fun h=>
   some h
def bV(a0:mF):Option mF:=Sw.app [] a0
def rJ(a0:dK):Option (dK):=
 (aO a0.1).bind fun h=>
  (bV a0.2.1).bind fun u=>
   some (h,u,a0.2.2)
def jE(VF:eP)(VL:mF)(ey:Int):Option (dT×eP×mF×Int):=
 bif (cm .eql ey 0) then
  some ((some 4),VF,VL,ey)
 else
  jp (fun (u:Int)=>
   some ((none:Option Int),VF,VL,u)
   ) fun h=>
  bif (cm .gtr ey 0) then
   h (ar .sub .i64 ey 1)
  else
   h ey
def rK(a0:dK)(a1:Int)(a2:aR):Option (dK×dT):=
 (mP a0).bind fun z=>
  bif (Option.isSome z) then
   some ((([]:eP),([]:mF),0),z)
  else
   (bif (cm .lss a1 0) then
    some true
   else
    some (cm .geq a1 (a0.1.length:Int))).bind fun A=>
    bif A then
     some ((([]:eP),([]:mF),0),(some 1))
    else
     bif (cm .eql (a0.2.1.length:Int) 800) then
      some ((([]:eP),([]:mF),0),(some 2))
     else
      (rJ a0).bind fun u=>
       (jE u.1 u.2.1 u.2.2).bind fun h=>
        bif (Option.isSome h.1) then
         some ((([]:eP),([]:mF),0),h.1)
        else
         (Sw.app h.2.2.1 ([(a1,a2)]:mF)).bind fun B=>
          some ((h.2.1,B,h.2.2.2),(none:Option Int))
def dS(VF:Int)(VL:dK)(a1:Int)(a2:aR):Option (dT×Int×dK):=
 (rK VL a1 a2).bind fun h=>
  jp (fun (z:dK)=>
   some (h.2,VF,z)
   ) fun u=>
  bif (Option.isNone h.2) then
   u h.1
  else
   u VL
def gP(VF:Int)(VL:dK):Option (dT×Int×dK):=
 (iN VL (ar .add .i64 VF 2)).bind fun C=>
  lp (β:=dT×Int×dK) (fun (h:dT×Int×Int×dK)=>
   (bif (Option.isNone h.1) then
    (gM C.1).bind fun F=>
     some (cm .lss h.2.1 F)
   else
    some false).bind fun G=>
    bif G then
     (iN h.2.2.2 (ar .add .i64 (ar .add .i64 h.2.2.1 3) (ar .mul .i64 2 h.2.1))).bind fun u=>
      jp (fun (z:dT×aR)=>
       bif (Option.isNone z.1) then
        (gM u.1).bind fun H=>
         (dS h.2.2.1 h.2.2.2 H z.2).bind fun A=>
          some (.next (A.1,(ar .add .i64 h.2.1 1),A.2.1,A.2.2))
       else
        some (.next (z.1,(ar .add .i64 h.2.1 1),h.2.2.1,h.2.2.2))
       ) fun D=>
      bif (Option.isNone u.2) then
       (iN h.2.2.2 (ar .add .i64 (ar .add .i64 h.2.2.1 4) (ar .mul .i64 2 h.2.1))).bind fun E=>
        D (E.2,E.1)
      else
       D (u.2,aU)
    else
     some (.done (.VP (h.1,h.2.2.1,h.2.2.2)))
   ) (C.2,0,VF,VL) fun (B:dT×Int×dK)=>
  some (B.1,B.2.1,B.2.2)
def rL(a0:dK):Option (dK×dT):=
 (mP a0).bind fun B=>
  bif (Option.isSome B) then
   some ((([]:eP),([]:mF),0),B)
  else
   (rJ a0).bind fun z=>
    (jE z.1 z.2.1 z.2.2).bind fun h=>
     bif (Option.isSome h.1) then
      some ((([]:eP),([]:mF),0),h.1)
     else
      lp (β:=eP) (fun (u:Int×eP)=>
       bif (cm .lss u.1 (h.2.2.1.length:Int)) then
        (Sw.idx h.2.2.1 u.1).bind fun A=>
         (Sw.idx u.2 A.1).bind fun _=>
          some (.next ((ar .add .i64 u.1 1),(List.set u.2 (Int.toNat A.1) A.2)))
       else
        some (.done (.VP u.2))
       ) (0,h.2.1) fun (C:eP)=>
      some ((C,([]:mF),h.2.2.2),(none:Option Int))
def eQ(VF:Int)(VL:dK):Option (dT×Int×dK):=
 (rL VL).bind fun h=>
  jp (fun (z:dK)=>
   some (h.2,VF,z)
   ) fun u=>
  bif (Option.isNone h.2) then
   u h.1
  else
   u VL
def iO(a1 V6:Int)(bq:dK):Option (dT×Int×dK):=
 (dS V6 bq (ar .add .i64 V6 1) ([a1]++List.replicate 7 0:aR)).bind fun h=>
  some (h.1,h.2.1,h.2.2)
def kT(q:dF)(n0:Int)(n1:dK):Option (dT×Int×dK):=match q with
 | .inl z=>iO z.2.2 n0 n1
 | .inr z=>eQ n0 n1
def gG(a0:(List dF))(WQ:Int)(ZM:dK):Option (dT×Int×dK):=
 lp (β:=Int×dK) (fun (h:Int×Int×dK)=>
  bif (cm .lss h.1 (a0.length:Int)) then
   (Sw.idx a0 h.1).bind fun A=>
    (kT A h.2.1 h.2.2).bind fun u=>
     bif (Option.isSome u.1) then
      some (.done (.ret (u.1,u.2.1,u.2.2)))
     else
      some (.next ((ar .add .i64 h.1 1),u.2.1,u.2.2))
  else
   some (.done (.VP (h.2.1,h.2.2)))
  ) (0,WQ,ZM) fun (z:Int×dK)=>
 some ((none:Option Int),z.1,z.2)
def fR(VF:Int)(VL:dK)(a1:Int):Option (dT×Int×dK):=
 (gG ([(.inl ((),((),a1)):dF),(.inr ((),()):dF)]:(List dF)) VF VL).bind fun h=>
  some (h.1,h.2.1,h.2.2)
def lZ(WQ:Int)(ZM:dK):Option (dT×Int×dK):=
 (fR WQ ZM 0).bind fun h=>
  some (h.1,h.2.1,h.2.2)
def nC(q:dD)(n0:Int)(n1:dK):Option (dT×Int×dK):=match q with
 | .inl z=>gP n0 n1
 | .inr (.inl z)=>eQ n0 n1
 | .inr (.inr z)=>lZ n0 n1
def iS(a0:(List dD))(WQ:Int)(ZM:dK):Option (dT×Int×dK):=
 lp (β:=Int×dK) (fun (h:Int×Int×dK)=>
  bif (cm .lss h.1 (a0.length:Int)) then
   (Sw.idx a0 h.1).bind fun A=>
    (nC A h.2.1 h.2.2).bind fun u=>
     bif (Option.isSome u.1) then
      some (.done (.ret (u.1,u.2.1,u.2.2)))
     else
      some (.next ((ar .add .i64 h.1 1),u.2.1,u.2.2))
  else
   some (.done (.VP (h.2.1,h.2.2)))
  ) (0,WQ,ZM) fun (z:Int×dK)=>
 some ((none:Option Int),z.1,z.2)
def iP(VF:Int)(VL:dK):Option (dT×Int×dK):=
 (iN VL (ar .add .i64 VF 1)).bind fun h=>
  (bif (Option.isSome h.2) then
   some true
  else
   (Sw.idx h.1 0).bind fun z=>
    some (cm .eql z 0)).bind fun A=>
   bif A then
    some (h.2,VF,VL)
   else
    (iS ([(.inl ((),()):dD),(.inr (.inl ((),())):dD),(.inr (.inr ((),())):dD)]:(List dD)) VF VL).bind fun u=>
     some (u.1,u.2.1,u.2.2)
def mQ(a0:dK)(a1:Int):Option ((Option (Int×dK))×dT):=
 (rI a1).bind fun u=>
  bif (Option.isSome u.2) then
   some ((none:(Option (Int×dK))),u.2)
  else
   (mP a0).bind fun z=>
    (bif (Option.isSome z) then
     some true
    else
     bif (cm .neq (a0.1.length:Int) u.1) then
      some true
     else
      some (cm .gtr (a0.2.1.length:Int) 0)).bind fun A=>
     bif A then
      some ((none:(Option (Int×dK))),(some 5))
     else
      (aO a0.1).bind fun B=>
       (iP a1 (B,([]:mF),a0.2.2)).bind fun h=>
        bif (Option.isSome h.1) then
         some ((none:(Option (Int×dK))),h.1)
        else
         some ((some (h.2.1,h.2.2)),(none:Option Int))
def iX(a0:Int):Option ((Option (Int×dK))×dT):=
 (qT a0).bind fun h=>
  bif (Option.isSome h.2) then
   some ((none:(Option (Int×dK))),h.2)
  else
   (mQ h.1 a0).bind fun u=>
    xE u.1 (
     some ((none:(Option (Int×dK))),u.2)
     ) fun z=>
     some ((some (z.1,z.2)),u.2)
def fS(a0:(Int×dK)):Option (Int×Int×dT):=
 (iN a0.2 a0.1).bind fun h=>
  bif (Option.isSome h.2) then
   some (0,0,h.2)
  else
   (gM h.1).bind fun u=>
    (Sw.R6 h.1 4 8 8).bind fun z=>
     (Sw.sub h.1 0 4).bind fun A=>
      (Sw.app z A).bind fun B=>
       (Sw.m7 8 B).bind fun C=>
        (gM C).bind fun D=>
         some (u,D,(none:Option Int))
def iY(a0:(Int×aR))(a1:(Option (Int×dK))):Option (Bool):=
 (bif (cm .lss a0.1 0) then
  some true
 else
  (a1).bind fun h=>
   some (cm .geq a0.1 h.1)).bind fun u=>
  some u
def cQ(a0:mF)(WQ:(Option (Int×dK))):Option (Int):=
 lp (β:=Unit) (fun (h:Int)=>
  bif (cm .lss h (a0.length:Int)) then
   (Sw.idx a0 h).bind fun u=>
    (iY u WQ).bind fun z=>
     bif z then
      some (.done (.ret h))
     else
      some (.next (ar .add .i64 h 1))
  else
   some (.done (.VP ()))
  ) 0 fun (_:Unit)=>
 some (-1:Int)
def bZ(a0:mF)(WQ:(Option (Int×dK))):Option (Bool):=
 (cQ a0 WQ).bind fun h=>
  some (cm .geq h 0)
def jV(a0:Int):Option (aR):=
 some ([(IntKind.wrap .u8 (sh .shr .i64 a0 24)),(IntKind.wrap .u8 (sh .shr .i64 a0 16)),(IntKind.wrap .u8 (sh .shr .i64 a0 8)),(IntKind.wrap .u8 a0)]++List.replicate 4 0:aR)
def gS(a1:mF)(V6:Int)(bq:dK):Option (dT×Int×dK):=
 (jV (a1.length:Int)).bind fun u=>
  (dS V6 bq (ar .add .i64 V6 2) u).bind fun h=>
   some (h.1,h.2.1,h.2.2)
def gT(a1:Int)(a2:(Int×aR))(V5:Int)(bp:dK):Option (dT×Int×dK):=
 (jV a2.1).bind fun u=>
  (dS V5 bp (ar .add .i64 (ar .add .i64 V5 3) (ar .mul .i64 2 a1)) u).bind fun h=>
   some (h.1,h.2.1,h.2.2)
def gU(a1:Int)(a2:(Int×aR))(V5:Int)(bp:dK):Option (dT×Int×dK):=
 (dS V5 bp (ar .add .i64 (ar .add .i64 V5 4) (ar .mul .i64 2 a1)) a2.2).bind fun h=>
  some (h.1,h.2.1,h.2.2)
def gV(WQ:Int)(ZM:dK):Option (dT×Int×dK):=
 (fR WQ ZM 1).bind fun h=>
  some (h.1,h.2.1,h.2.2)
def gW(WQ:Int)(ZM:dK):Option (dT×Int×dK):=
 (fR WQ ZM 0).bind fun h=>
  some (h.1,h.2.1,h.2.2)
def iF(q:aE)(n0:Int)(n1:dK):Option (dT×Int×dK):=match q with
 | .inl z=>gS z.2.2 n0 n1
 | .inr (.inl z)=>gT z.2.2.1 z.2.2.2 n0 n1
 | .inr (.inr (.inl z))=>gU z.2.2.1 z.2.2.2 n0 n1
 | .inr (.inr (.inr (.inl z)))=>eQ n0 n1
 | .inr (.inr (.inr (.inr (.inl z))))=>gV n0 n1
 | .inr (.inr (.inr (.inr (.inr (.inl z)))))=>gP n0 n1
 | .inr (.inr (.inr (.inr (.inr (.inr (.inl z))))))=>eQ n0 n1
 | .inr (.inr (.inr (.inr (.inr (.inr (.inr z))))))=>gW n0 n1
def eI(a0:(List aE))(WQ:Int)(ZM:dK):Option (dT×Int×dK):=
 lp (β:=Int×dK) (fun (h:Int×Int×dK)=>
  bif (cm .lss h.1 (a0.length:Int)) then
   (Sw.idx a0 h.1).bind fun A=>
    (iF A h.2.1 h.2.2).bind fun u=>
     bif (Option.isSome u.1) then
      some (.done (.ret (u.1,u.2.1,u.2.2)))
     else
      some (.next ((ar .add .i64 h.1 1),u.2.1,u.2.2))
  else
   some (.done (.VP (h.2.1,h.2.2)))
  ) (0,WQ,ZM) fun (z:Int×dK)=>
 some ((none:Option Int),z.1,z.2)
def cU(VF:Int)(VL:dK)(a1:mF)(a2 a3:Int):Option (dT×Int×dK):=
 bif (cm .gtr (a1.length:Int) VF) then
  some ((some 2),VF,VL)
 else
  (bif (cm .lss (min a2 a3) 0) then
   some true
  else
   bif (cm .gtr (max a2 a3) 2147483647) then
    some true
   else
    (bZ a1 (some (VF,VL))).bind fun B=>
     some B).bind fun C=>
   bif C then
    some ((some 1),VF,VL)
   else
    (jV a2).bind fun D=>
     (jV a3).bind fun E=>
      (bV a1).bind fun F=>
       (Sw.R6 D 0 4 4).bind fun G=>
        (Sw.sub E 0 4).bind fun H=>
         (Sw.app G H).bind fun I=>
          (Sw.m7 8 I).bind fun K=>
           (Sw.app F ([(VF,K)]:mF)).bind fun u=>
            lp (β:=(List aE)) (fun (h:Int×(List aE))=>
             bif (cm .lss h.1 (u.length:Int)) then
              (Sw.idx u h.1).bind fun A=>
               (Sw.app h.2 ([(.inr (.inl ((),((),(h.1,A)))):aE),(.inr (.inr (.inl ((),((),(h.1,A))))):aE)]:(List aE))).bind fun L=>
                some (.next ((ar .add .i64 h.1 1),L))
             else
              some (.done (.VP h.2))
             ) (0,([(.inl ((),((),u)):aE)]:(List aE))) fun (M:(List aE))=>
            (Sw.app M ([(.inr (.inr (.inr (.inl ((),())))):aE),(.inr (.inr (.inr (.inr (.inl ((),()))))):aE),(.inr (.inr (.inr (.inr (.inr (.inl ((),())))))):aE),(.inr (.inr (.inr (.inr (.inr (.inr (.inl ((),()))))))):aE),(.inr (.inr (.inr (.inr (.inr (.inr (.inr ((),()))))))):aE)]:(List aE))).bind fun N=>
             (eI N VF VL).bind fun z=>
              some (z.1,z.2.1,z.2.2)
def iZ(b0 b1 b2 b3:Int)(b4:eP)(b5:pO)(b6:rX)(b7:Int)(b8:qF)(b9 WA:Int)(VZ:cY)(WG VV WC VY:Int)(WB:rH)(VS:mN)(WO:Int)(WN:dK):Option (dT×Int×Int×Int×dK):=
 (fS (WO,WN)).bind fun h=>
  bif (Option.isSome h.2.2) then
   some (h.2.2,b2,b3,WO,WN)
  else
   (cU WO WN ([]:mF) h.1 (ar .add .i64 h.2.1 1)).bind fun u=>
    some (u.1,h.1,(ar .add .i64 h.2.1 1),u.2.1,u.2.2)
def jZ(a0:(Int×dK))(a1:Int):Option (aR×dT):=
 (bif (cm .lss a1 0) then
  some true
 else
  some (cm .geq a1 a0.1)).bind fun u=>
  bif u then
   some (aU,(some 1))
  else
   (iN a0.2 a1).bind fun h=>
    some (h.1,h.2)
def fZ(a0:(Int×dK)):Option (eP×dT):=
 lp (β:=eP) (fun (h:Int×eP)=>
  bif (cm .lss h.1 a0.1) then
   (jZ a0 h.1).bind fun u=>
    bif (Option.isSome u.2) then
     some (.done (.ret (([]:eP),u.2)))
    else
     (Sw.app h.2 ([u.1]:eP)).bind fun z=>
      some (.next ((ar .add .i64 h.1 1),z))
  else
   some (.done (.VP h.2))
  ) (0,([]:eP)) fun (A:eP)=>
 some (A,(none:Option Int))
def fK(b0 b1 b2 b3:Int)(b4:eP)(b5:pO)(b6:rX)(b7:Int)(b8:qF)(b9 WA:Int)(VZ:cY)(WG VV WC VY:Int)(WB:rH)(VS:mN)(WO:Int)(WN:dK):Option (rX):=
 (aO b4).bind fun h=>
  (Gm b6 b2 h).bind fun u=>
   some (Fq u (ar .sub .i64 (ar .sub .i64 b2 4) 1))
def fA(b0 b1 b2 b3:Int)(b4:eP)(b5:pO)(b6:rX)(b7:Int)(b8:qF)(b9 WA:Int)(VZ:cY)(WG VV WC VY:Int)(WB:rH)(VS:mN)(WO:Int)(WN:dK):Option (dT×Int×Int×Int×eP×pO×rX×Int×qF×Int×Int×cY×Int×dK):=
 (iZ b0 b0 0 0 ([]:eP) (0,([]:mF),([]:sB),false) ([]:List (Int×eP)) (-1:Int) (0,0,([]:wK)) 0 0 ([]:cY) WG VV WC VY WB VS WO WN).bind fun h=>
  bif (Option.isSome h.1) then
   some (h.1,b0,h.2.1,h.2.2.1,([]:eP),(0,([]:mF),([]:sB),false),([]:List (Int×eP)),(-1:Int),(0,0,([]:wK)),0,0,([]:cY),h.2.2.2.1,h.2.2.2.2)
  else
   (fZ h.2.2.2).bind fun u=>
    (fK b0 b0 h.2.1 h.2.2.1 u.1 (h.2.1,([]:mF),([]:sB),true) ([]:List (Int×eP)) (-1:Int) (0,0,([]:wK)) 0 0 ([]:cY) WG VV WC VY WB VS h.2.2.2.1 h.2.2.2.2).bind fun z=>
     some (u.2,b0,h.2.1,h.2.2.1,u.1,(h.2.1,([]:mF),([]:sB),true),z,(-1:Int),(0,0,([]:wK)),0,0,([]:cY),h.2.2.2.1,h.2.2.2.2)
def gD(b0 b1 b2 b3:Int)(b4:eP)(b5:pO)(b6:rX)(b7:Int)(b8:qF)(b9 WA:Int)(VZ:cY)(WG VV WC VY:Int)(WB:rH)(VS:mN)(WO:Int)(WN:dK)(WM:Int)(WL:dK):Option (dT×Int×Int×Int×dK):=
 (fS (WM,WL)).bind fun h=>
  bif (Option.isSome h.2.2) then
   some (h.2.2,VV,WC,WM,WL)
  else
   (cU WM WL ([]:mF) h.1 (ar .add .i64 h.2.1 1)).bind fun u=>
    some (u.1,h.1,(ar .add .i64 h.2.1 1),u.2.1,u.2.2)
def gK(b0 b1 b2 b3:Int)(b4:eP)(b5:pO)(b6:rX)(b7:Int)(b8:qF)(b9 WA:Int)(VZ:cY)(WG VV WC VY:Int)(WB:rH)(VS:mN)(WO:Int)(WN:dK)(WM:Int)(WL:dK):Option (dT×Int×Int×Int×Int×rH×Int×dK):=
 (gD b0 b1 b2 b3 b4 b5 b6 b7 b8 b9 WA VZ b0 0 0 (-1:Int) (0,0) VS WO WN WM WL).bind fun h=>
  some (h.1,b0,h.2.1,h.2.2.1,(-1:Int),(0,0),h.2.2.2.1,h.2.2.2.2)
def iG(a0:Int):Option ((Option (Int×Int×Int×Int×eP×pO×rX×Int×qF×Int×Int×cY×Int×Int×Int×Int×rH×mN×Int×dK×Int×dK))×dT):=
 (iX a0).bind fun z=>
  xE z.1 (
   bif (Option.isSome z.2) then
    some ((none:_),z.2)
   else
    (iX a0).bind fun A=>
     xE A.1 (
      bif (Option.isSome A.2) then
       some ((none:_),A.2)
      else
       none
      ) fun _=>
      bif (Option.isSome A.2) then
       some ((none:_),A.2)
      else
       none
   ) fun C=>
   bif (Option.isSome z.2) then
    some ((none:_),z.2)
   else
    (iX a0).bind fun B=>
     xE B.1 (
      bif (Option.isSome B.2) then
       some ((none:_),B.2)
      else
       (fA a0 a0 0 0 ([]:eP) (0,([]:mF),([]:sB),false) ([]:rX) 0 (0,0,([]:wK)) 0 0 ([]:cY) a0 0 0 0 (0,0) ([]:mN) C.1 C.2).bind fun D=>
        bif (Option.isSome D.1) then
         some ((none:_),D.1)
        else
         none
      ) fun E=>
      bif (Option.isSome B.2) then
       some ((none:_),B.2)
      else
       (fA a0 a0 0 0 ([]:eP) (0,([]:mF),([]:sB),false) ([]:rX) 0 (0,0,([]:wK)) 0 0 ([]:cY) a0 0 0 0 (0,0) ([]:mN) C.1 C.2).bind fun h=>
        bif (Option.isSome h.1) then
         some ((none:_),h.1)
        else
         (gK a0 h.2.1 h.2.2.1 h.2.2.2.1 h.2.2.2.2.1 h.2.2.2.2.2.1 h.2.2.2.2.2.2.1 h.2.2.2.2.2.2.2.1 h.2.2.2.2.2.2.2.2.1 h.2.2.2.2.2.2.2.2.2.1 h.2.2.2.2.2.2.2.2.2.2.1 h.2.2.2.2.2.2.2.2.2.2.2.1 a0 0 0 0 (0,0) ([]:mN) h.2.2.2.2.2.2.2.2.2.2.2.2.1 h.2.2.2.2.2.2.2.2.2.2.2.2.2 E.1 E.2).bind fun u=>
          some ((some (a0,h.2.1,h.2.2.1,h.2.2.2.1,h.2.2.2.2.1,h.2.2.2.2.2.1,h.2.2.2.2.2.2.1,h.2.2.2.2.2.2.2.1,h.2.2.2.2.2.2.2.2.1,h.2.2.2.2.2.2.2.2.2.1,h.2.2.2.2.2.2.2.2.2.2.1,h.2.2.2.2.2.2.2.2.2.2.2.1,u.2.1,u.2.2.1,u.2.2.2.1,u.2.2.2.2.1,u.2.2.2.2.2.1,([]:mN),h.2.2.2.2.2.2.2.2.2.2.2.2.1,h.2.2.2.2.2.2.2.2.2.2.2.2.2,u.2.2.2.2.2.2.1,u.2.2.2.2.2.2.2)),u.1)
def tY(a0:Int):Option (Nat):=
 bif (cm .eql a0 0) then
  some (0:Nat)
 else
  bif (cm .eql a0 1) then
   some (1:Nat)
  else
   bif (cm .eql a0 2) then
    some (2:Nat)
   else
    bif (cm .eql a0 3) then
     some (3:Nat)
    else
     bif (cm .eql a0 4) then
      some (4:Nat)
     else
      bif (cm .eql a0 5) then
       some (5:Nat)
      else
       bif (cm .eql a0 6) then
        some (6:Nat)
       else
        bif (cm .eql a0 7) then
         some (7:Nat)
        else
         bif (cm .eql a0 8) then
          some (8:Nat)
         else
          bif (cm .eql a0 9) then
           some (9:Nat)
          else
           bif (cm .eql a0 10) then
            some (10:Nat)
           else
            some (11:Nat)
def lL(a0:mF)(a1:Int):Option (Bool):=
 lp (β:=Unit) (fun (h:Int×Int)=>
  bif (cm .lss h.2 (a0.length:Int)) then
   (Sw.idx a0 h.2).bind fun u=>
    (bif (cm .leq u.1 h.1) then
     some true
    else
     some (cm .geq u.1 a1)).bind fun z=>
     bif z then
      some (.done (.ret false))
     else
      some (.next (u.1,(ar .add .i64 h.2 1)))
  else
   some (.done (.VP ()))
  ) ((-1:Int),0) fun (_:Unit)=>
 some true
def kZ(a0:pO)(a1:Int):Option (dT):=
 (bif (cm .lss a1 1) then
  some true
 else
  bif (cm .gtr a1 32) then
   some true
  else
   bif (cm .lss a0.1 0) then
    some true
   else
    some (cm .gtr a0.1 2147483647)).bind fun z=>
  bif z then
   some (some 1)
  else
   bif (cm .gtr (a0.2.2.1.length:Int) 4) then
    some (some 2)
   else
    ((lL a0.2.1 a1).bind fun A=>
     bif (!A) then
      some true
     else
      bif a0.2.2.2 then
       some (cm .gtr (a0.2.2.1.length:Int) 0)
      else
       some false).bind fun B=>
     bif B then
      some (some 3)
     else
      lp (β:=Unit) (fun (h:Int)=>
       bif (cm .lss h (a0.2.2.1.length:Int)) then
        (Sw.idx a0.2.2.1 h).bind fun u=>
         ((lL u.2 a1).bind fun C=>
          bif (!C) then
           some true
          else
           bif (cm .neq u.1 (ar .add .i64 (ar .add .i64 (ar .sub .i64 a0.1 (a0.2.2.1.length:Int)) 1) h)) then
            some true
           else
            some (cm .lss u.1 1)).bind fun D=>
          bif D then
           some (.done (.ret (some 3)))
          else
           some (.next (ar .add .i64 h 1))
       else
        some (.done (.VP ()))
       ) 0 fun (_:Unit)=>
      some (none:Option Int)
def jA(a0:(Bool×sB)):Option (sB):=
 bif a0.1 then
  some ([]:sB)
 else
  (Sw.app ([]:sB) a0.2).bind fun h=>
   some h
def gL(a0:sB):Option sB:=Sw.app [] a0
def nD(a0:pO):Option (pO):=
 (bV a0.2.1).bind fun z=>
  (gL a0.2.2.1).bind fun u=>
   lp (β:=sB) (fun (h:Int×sB)=>
    bif (cm .lss h.1 (u.length:Int)) then
     (Sw.idx h.2 h.1).bind fun A=>
      (bV A.2).bind fun B=>
       (Sw.idx h.2 h.1).bind fun C=>
        some (.next ((ar .add .i64 h.1 1),(List.set h.2 (Int.toNat h.1) (C.1,B))))
    else
     some (.done (.VP h.2))
    ) (0,u) fun (D:sB)=>
   some (a0.1,z,D,a0.2.2.2)
def sK(a0:(Int×aR))(a1:Int):Option (Int):=
 some (ar .sub .i64 a0.1 a1)
def cA(a0:mF)(a1:Int):Option (Int×Bool):=
 lp (β:=Int) (fun (h:Int×Int)=>
  bif (cm .lss h.1 h.2) then
   (Sw.idx a0 (IntKind.wrap .i64 (sh .shr .u64 (IntKind.wrap .u64 (ar .add .i64 h.1 h.2)) 1))).bind fun z=>
    (sK z a1).bind fun A=>
     bif (cm .lss A 0) then
      some (.next ((ar .add .i64 (IntKind.wrap .i64 (sh .shr .u64 (IntKind.wrap .u64 (ar .add .i64 h.1 h.2)) 1)) 1),h.2))
     else
      some (.next (h.1,(IntKind.wrap .i64 (sh .shr .u64 (IntKind.wrap .u64 (ar .add .i64 h.1 h.2)) 1))))
  else
   some (.done (.VP h.1))
  ) (0,(a0.length:Int)) fun (u:Int)=>
 (bif (cm .lss u (a0.length:Int)) then
  (Sw.idx a0 u).bind fun B=>
   (sK B a1).bind fun C=>
    some (cm .eql C 0)
 else
  some false).bind fun D=>
  some (u,D)
def gH(a0:mF)(a1:Int)(a2:mF):Option (mF):=Sw.ins a0 a1 a2
def tL(a0:pO)(a1:Int)(a2:(Int×aR)):Option (pO×dT):=
 (kZ a0 a1).bind fun z=>
  bif (Option.isSome z) then
   some ((0,([]:mF),([]:sB),false),z)
  else
   (bif (cm .lss a2.1 0) then
    some true
   else
    some (cm .geq a2.1 a1)).bind fun B=>
    bif B then
     some ((0,([]:mF),([]:sB),false),(some 1))
    else
     (nD a0).bind fun h=>
      (cA h.2.1 a2.1).bind fun u=>
       jp (fun (C:mF)=>
        some ((h.1,C,h.2.2.1,h.2.2.2),(none:Option Int))
        ) fun A=>
       bif u.2 then
        (Sw.idx h.2.1 u.1).bind fun _=>
         A (List.set h.2.1 (Int.toNat u.1) a2)
       else
        (gH h.2.1 u.1 ([a2]:mF)).bind fun D=>
         A D
def eR(a1:Int)(a2:aR)(b0 b1 b2 b3:Int)(b4:eP)(b5:pO)(b6:rX)(b7:Int)(b8:qF)(b9 WA:Int)(VZ:cY)(WG VV WC VY:Int)(WB:rH)(VS:mN)(WO:Int)(WN:dK)(WM:Int)(WL:dK):Option (dT×eP×pO):=
 (tL b5 b0 (a1,a2)).bind fun h=>
  bif (Option.isSome h.2) then
   some (h.2,b4,b5)
  else
   (Sw.idx b4 a1).bind fun _=>
    some ((none:Option Int),(List.set b4 (Int.toNat a1) a2),h.1)
def nM(a1:Oj)(b0 b1 b2 b3:Int)(b4:eP)(b5:pO)(b6:rX)(b7:Int)(b8:qF)(b9 WA:Int)(VZ:cY)(WG VV WC VY:Int)(WB:rH)(VS:mN)(WO:Int)(WN:dK)(WM:Int)(WL:dK):Option (aR×dT×Int×Int×Int×Int×eP×pO×rX×Int×qF×Int×Int×cY×Int×Int×Int×Int×rH×mN×Int×dK×Int×dK):=
 (eR a1.2.1 a1.2.2.2 b0 b1 b2 b3 b4 b5 b6 b7 b8 b9 WA VZ WG VV WC VY WB VS WO WN WM WL).bind fun h=>
  some (aU,h.1,b0,b1,b2,b3,h.2.1,h.2.2,b6,b7,b8,b9,WA,VZ,WG,VV,WC,VY,WB,VS,WO,WN,WM,WL)
def nN(a1:Oj)(b0 b1 b2 b3:Int)(b4:eP)(b5:pO)(b6:rX)(b7:Int)(b8:qF)(b9 WA:Int)(VZ:cY)(WG VV WC VY:Int)(WB:rH)(VS:mN)(WO:Int)(WN:dK)(WM:Int)(WL:dK):Option (aR×dT×Int×Int×Int×Int×eP×pO×rX×Int×qF×Int×Int×cY×Int×Int×Int×Int×rH×mN×Int×dK×Int×dK):=
 (eR a1.2.1 aU b0 b1 b2 b3 b4 b5 b6 b7 b8 b9 WA VZ WG VV WC VY WB VS WO WN WM WL).bind fun h=>
  some (aU,h.1,b0,b1,b2,b3,h.2.1,h.2.2,b6,b7,b8,b9,WA,VZ,WG,VV,WC,VY,WB,VS,WO,WN,WM,WL)
def fU(a1 b0 b1 b2 b3:Int)(b4:eP)(b5:pO)(b6:rX)(b7:Int)(b8:qF)(b9 WA:Int)(VZ:cY)(WG VV WC VY:Int)(WB:rH)(VS:mN)(WO:Int)(WN:dK)(WM:Int)(WL:dK):Option (aR×dT):=
 (bif (cm .lss a1 0) then
  some true
 else
  some (cm .geq a1 b0)).bind fun h=>
  bif h then
   some (aU,(some 1))
  else
   (Sw.idx b4 a1).bind fun u=>
    some (u,(none:Option Int))
def nO(a1:Oj)(b0 b1 b2 b3:Int)(b4:eP)(b5:pO)(b6:rX)(b7:Int)(b8:qF)(b9 WA:Int)(VZ:cY)(WG VV WC VY:Int)(WB:rH)(VS:mN)(WO:Int)(WN:dK)(WM:Int)(WL:dK):Option (aR×dT×Int×Int×Int×Int×eP×pO×rX×Int×qF×Int×Int×cY×Int×Int×Int×Int×rH×mN×Int×dK×Int×dK):=
 (fU a1.2.1 b0 b1 b2 b3 b4 b5 b6 b7 b8 b9 WA VZ WG VV WC VY WB VS WO WN WM WL).bind fun h=>
  some (h.1,h.2,b0,b1,b2,b3,b4,b5,b6,b7,b8,b9,WA,VZ,WG,VV,WC,VY,WB,VS,WO,WN,WM,WL)
def jL(a1:mF)(a2 b0 b1 b2 b3:Int)(b4:eP)(b5:pO)(b6:rX)(b7:Int)(b8:qF)(b9 WA:Int)(VZ:cY)(WG VV WC VY:Int)(WB:rH)(VS:mN)(WO:Int)(WN:dK)(WM:Int)(WL:dK):Option (dT×Int×Int×dK):=
 (cU WO WN a1 a2 b3).bind fun h=>
  bif (Option.isSome h.1) then
   some (h.1,b2,h.2.1,h.2.2)
  else
   some ((none:Option Int),a2,h.2.1,h.2.2)
def rM(a0:pO)(a1:Int):Option (pO×dT):=
 (kZ a0 a1).bind fun u=>
  bif (Option.isSome u) then
   some ((0,([]:mF),([]:sB),false),u)
  else
   bif (cm .eql a0.1 2147483647) then
    some ((0,([]:mF),([]:sB),false),(some 2))
   else
    (nD a0).bind fun h=>
     bif h.2.2.2 then
      some (((ar .add .i64 h.1 1),([]:mF),h.2.2.1,h.2.2.2),(none:Option Int))
     else
      bif (cm .eql (h.2.2.1.length:Int) 4) then
       some (((ar .add .i64 h.1 1),([]:mF),([]:sB),true),(none:Option Int))
      else
       (Sw.app h.2.2.1 ([((ar .add .i64 h.1 1),h.2.1)]:sB)).bind fun z=>
        some (((ar .add .i64 h.1 1),([]:mF),z,h.2.2.2),(none:Option Int))
def eD(b0 b1 b2 b3:Int)(b4:eP)(b5:pO)(b6:rX)(b7:Int)(b8:qF)(b9 WA:Int)(VZ:cY)(WG VV WC VY:Int)(WB:rH)(VS:mN)(WO:Int)(WN:dK)(WM:Int)(WL:dK):Option (rX):=
 (aO b4).bind fun h=>
  (Gm b6 b2 h).bind fun u=>
   some (Fq u (ar .sub .i64 (ar .sub .i64 b2 4) 1))
def fP(b0 b1 b2 b3:Int)(b4:eP)(b5:pO)(b6:rX)(b7:Int)(b8:qF)(b9 WA:Int)(VZ:cY)(WG VV WC VY:Int)(WB:rH)(VS:mN)(WO:Int)(WN:dK)(WM:Int)(WL:dK):Option (dT×Int×pO×rX×Int×dK):=
 (jL b5.2.1 (ar .add .i64 b2 1) b0 b1 b2 b3 b4 b5 b6 b7 b8 b9 WA VZ WG VV WC VY WB VS WO WN WM WL).bind fun h=>
  bif (Option.isSome h.1) then
   some (h.1,h.2.1,b5,b6,h.2.2.1,h.2.2.2)
  else
   (rM b5 b1).bind fun u=>
    (eD b0 b1 h.2.1 b3 b4 u.1 b6 b7 b8 b9 WA VZ WG VV WC VY WB VS h.2.2.1 h.2.2.2 WM WL).bind fun z=>
     some (u.2,h.2.1,u.1,z,h.2.2.1,h.2.2.2)
def nP(a1:Oj)(b0 b1 b2 b3:Int)(b4:eP)(b5:pO)(b6:rX)(b7:Int)(b8:qF)(b9 WA:Int)(VZ:cY)(WG VV WC VY:Int)(WB:rH)(VS:mN)(WO:Int)(WN:dK)(WM:Int)(WL:dK):Option (aR×dT×Int×Int×Int×Int×eP×pO×rX×Int×qF×Int×Int×cY×Int×Int×Int×Int×rH×mN×Int×dK×Int×dK):=
 (fP b0 b1 b2 b3 b4 b5 b6 b7 b8 b9 WA VZ WG VV WC VY WB VS WO WN WM WL).bind fun h=>
  some (aU,h.1,b0,b1,h.2.1,b3,b4,h.2.2.1,h.2.2.2.1,b7,b8,b9,WA,VZ,WG,VV,WC,VY,WB,VS,h.2.2.2.2.1,h.2.2.2.2.2,WM,WL)
def pP(a0:Int):Option (Bool):=
 (bif (cm .lss a0 0) then
  some true
 else
  some (cm .gtr a0 2147483647)).bind fun h=>
  some h
def dV(a0:cY):Option (Int):=
 lp (β:=Unit) (fun (h:Int)=>
  bif (cm .lss h (a0.length:Int)) then
   (Sw.idx a0 h).bind fun u=>
    (pP u).bind fun z=>
     bif z then
      some (.done (.ret h))
     else
      some (.next (ar .add .i64 h 1))
  else
   some (.done (.VP ()))
  ) 0 fun (_:Unit)=>
 some (-1:Int)
def cV(a0:cY):Option (Bool):=
 (dV a0).bind fun h=>
  some (cm .geq h 0)
def pZ(a0:(Int×cY×eP)):Option (dT):=
 (bif (cm .lss a0.1 0) then
  some true
 else
  some (cm .gtr a0.1 15)).bind fun h=>
  bif h then
   some (some 1)
  else
   (bif (cm .gtr (a0.2.1.length:Int) 12) then
    some true
   else
    some (cm .gtr (a0.2.2.length:Int) 32)).bind fun u=>
    bif u then
     some (some 2)
    else
     (cV a0.2.1).bind fun z=>
      bif z then
       some (some 1)
      else
       some (none:Option Int)
def tM(a0:cY):Option (Int):=
 lp (β:=Int) (fun (h:Int×Int)=>
  bif (cm .lss h.2 (a0.length:Int)) then
   (Sw.idx a0 h.2).bind fun z=>
    lp (β:=Int) (fun (u:Int×Int)=>
     bif (cm .lss u.2 8) then
      some (.next ((ar .xor .u32 (sh .shr .u32 u.1 1) (ar .mul .u32 3988292384 (ar .and .u32 u.1 1))),(ar .add .i64 u.2 1)))
     else
      some (.done (.VP u.1))
     ) ((ar .xor .u32 h.1 z),0) fun (A:Int)=>
    some (.next (A,(ar .add .i64 h.2 1)))
  else
   some (.done (.VP h.1))
  ) (4294967295,0) fun (B:Int)=>
 some (BN .u32 B)
def mR(a0:(Int×cY×eP)):Option (cY×dT):=
 (pZ a0).bind fun B=>
  bif (Option.isSome B) then
   some (([]:cY),B)
  else
   lp (β:=cY) (fun (u:Int×cY)=>
    bif (cm .lss u.1 (a0.2.1.length:Int)) then
     (Sw.idx a0.2.1 u.1).bind fun E=>
      lp (β:=Int×cY) (fun (h:Int×cY)=>
       bif (cm .gtr h.1 127) then
        (Sw.app h.2 ([(ar .or .u8 (IntKind.wrap .u8 h.1) 128)]:cY)).bind fun F=>
         some (.next ((sh .shr .i64 h.1 7),F))
       else
        some (.done (.VP (h.1,h.2)))
       ) (E,u.2) fun (C:Int×cY)=>
      (Sw.app C.2 ([(IntKind.wrap .u8 C.1)]:cY)).bind fun G=>
       some (.next ((ar .add .i64 u.1 1),G))
    else
     some (.done (.VP u.2))
    ) (0,([(ar .or .u8 (sh .shl .u8 (IntKind.wrap .u8 a0.1) 4) (IntKind.wrap .u8 (a0.2.1.length:Int))),(IntKind.wrap .u8 (a0.2.2.length:Int))]:cY)) fun (H:cY)=>
   lp (β:=cY) (fun (z:Int×cY)=>
    bif (cm .lss z.1 (a0.2.2.length:Int)) then
     (Sw.idx a0.2.2 z.1).bind fun I=>
      (Sw.app z.2 I).bind fun K=>
       some (.next ((ar .add .i64 z.1 1),K))
    else
     some (.done (.VP z.2))
    ) (0,H) fun (D:cY)=>
   (tM D).bind fun A=>
    (Sw.app D ([(IntKind.wrap .u8 (sh .shr .u32 A 24)),(IntKind.wrap .u8 (sh .shr .u32 A 16)),(IntKind.wrap .u8 (sh .shr .u32 A 8)),(IntKind.wrap .u8 A)]:cY)).bind fun L=>
     some (L,(none:Option Int))
def eB(a1:Bool)(a2:(Bool×cY))(b0 b1 b2 b3:Int)(b4:eP)(b5:pO)(b6:rX)(b7:Int)(b8:qF)(b9 WA:Int)(VZ:cY)(WG VV WC VY:Int)(WB:rH)(VS:mN)(WO:Int)(WN:dK)(WM:Int)(WL:dK):Option (mN):=
 (bif (!a2.1) then
  some (cm .lss (VS.length:Int) 64)
 else
  some false).bind fun h=>
  bif h then
   (Sw.app VS ([(a1,false,a2.2)]:mN)).bind fun u=>
    some u
  else
   some VS
def iQ(a1:Bool)(a2:(Int×cY×eP))(b0 b1 b2 b3:Int)(b4:eP)(b5:pO)(b6:rX)(b7:Int)(b8:qF)(b9 WA:Int)(VZ:cY)(WG VV WC VY:Int)(WB:rH)(VS:mN)(WO:Int)(WN:dK)(WM:Int)(WL:dK):Option (dT×mN):=
 (mR a2).bind fun h=>
  jp (fun (z:mN)=>
   some (h.2,z)
   ) fun u=>
  bif (Option.isNone h.2) then
   (FZ h.1).bind fun _=>
    (eB a1 (false,h.1) b0 b1 b2 b3 b4 b5 b6 b7 b8 b9 WA VZ WG VV WC VY WB VS WO WN WM WL).bind fun A=>
     u A
  else
   u VS
def nE(a0:pO)(a1 a2:Int):Option ((Int×mF)×Bool×dT):=
 (kZ a0 a1).bind fun B=>
  bif (Option.isSome B) then
   some ((0,([]:mF)),false,B)
  else
   (bif (cm .lss a2 0) then
    some true
   else
    some (cm .gtr a2 a0.1)).bind fun E=>
    bif E then
     some ((0,([]:mF)),false,(some 1))
    else
     bif (cm .gtr (ar .sub .i64 a0.1 a2) (a0.2.2.1.length:Int)) then
      some ((0,([]:mF)),false,(none:Option Int))
     else
      lp (β:=(List (Option (Int×aR)))) (fun (z:Int×(List (Option (Int×aR))))=>
       bif (cm .lss z.1 (a0.2.2.1.length:Int)) then
        (Sw.idx a0.2.2.1 z.1).bind fun A=>
         lp (β:=(List (Option (Int×aR)))) (fun (h:Int×(List (Option (Int×aR))))=>
          bif (cm .lss h.1 (A.2.length:Int)) then
           bif (cm .gtr A.1 a2) then
            (Sw.idx A.2 h.1).bind fun C=>
             (Sw.idx A.2 h.1).bind fun F=>
              (Sw.idx h.2 C.1).bind fun _=>
               some (.next ((ar .add .i64 h.1 1),(List.set h.2 (Int.toNat C.1) (some F))))
           else
            some (.next ((ar .add .i64 h.1 1),h.2))
          else
           some (.done (.VP h.2))
          ) (0,z.2) fun (G:(List (Option (Int×aR))))=>
         some (.next ((ar .add .i64 z.1 1),G))
       else
        some (.done (.VP z.2))
       ) (0,(List.replicate 32 (none:(Option (Int×aR))))) fun (H:(List (Option (Int×aR))))=>
      lp (β:=mF) (fun (u:Int×mF)=>
       bif (cm .lss u.1 32) then
        (Sw.idx H u.1).bind fun D=>
         bif (Option.isSome D) then
          (D).bind fun I=>
           (Sw.app u.2 ([I]:mF)).bind fun K=>
            some (.next ((ar .add .i64 u.1 1),K))
         else
          some (.next ((ar .add .i64 u.1 1),u.2))
       else
        some (.done (.VP u.2))
       ) (0,([]:mF)) fun (L:mF)=>
      some ((a0.1,L),true,(none:Option Int))
def qA(a0:eP):Option (dT):=
 bif (cm .gtr (a0.length:Int) 8) then
  some (some 2)
 else
  lp (β:=Unit) (fun (h:Int×(List (aR×Bool)))=>
   bif (cm .lss h.1 (a0.length:Int)) then
    (Sw.idx a0 h.1).bind fun u=>
     bif ((fJ h.2 u).getD false) then
      some (.done (.ret (some 3)))
     else
      (Gm h.2 u true).bind fun z=>
       some (.next ((ar .add .i64 h.1 1),z))
   else
    some (.done (.VP ()))
   ) (0,([]:List (aR×Bool))) fun (_:Unit)=>
  some (none:Option Int)
def nX(a0 a1:eP):Option (dT):=
 (bif (cm .lss (a0.length:Int) 1) then
  some true
 else
  some (cm .gtr (a0.length:Int) 32)).bind fun h=>
  bif h then
   some (some 1)
  else
   (qA a1).bind fun u=>
    some u
def vL(a0:eP):Option ((Option (eP×(List (aR×cY))))×dT):=
 (bif (cm .lss (a0.length:Int) 1) then
  some true
 else
  some (cm .gtr (a0.length:Int) 32)).bind fun z=>
  bif z then
   some ((none:(Option (eP×(List (aR×cY))))),(some 1))
  else
   (aO a0).bind fun A=>
    lp (β:=(List (aR×cY))) (fun (h:Int×(List (aR×cY)))=>
     bif (cm .lss h.1 (a0.length:Int)) then
      (Sw.idx a0 h.1).bind fun B=>
       (Rr h.2 B).bind fun u=>
        (Sw.app u.2.2 ([h.1]:cY)).bind fun C=>
         some (.next ((ar .add .i64 h.1 1),vV u.1 u.2.1 C))
     else
      some (.done (.VP h.2))
     ) (0,([]:List (aR×cY))) fun (D:(List (aR×cY)))=>
    some ((some (A,D)),(none:Option Int))
def uS(a0:Unit)(a1:(Int×aR)):Option (Oj×Bool):=
 some ((a1.1,0,0,aU),(decide (a1.2=aU)))
def lM(a0:(Option (eP×(List (aR×cY)))))(a1:aR):Option (Int×Bool):=
 (a0).bind fun h=>
  bif (cm .eql (((fJ h.2 a1).getD ([]:cY)).length:Int) 0) then
   some (0,false)
  else
   (Sw.idx ((fJ h.2 a1).getD ([]:cY)) 0).bind fun u=>
    some (u,true)
def nY(a0:((Option (eP×(List (aR×cY))))))(a1:(Int×aR)):Option (Oj×Bool):=
 (lM a0 a1.2).bind fun h=>
  some ((a1.1,1,h.1,aU),h.2)
def dX(a0:eP)(a1:aR):Option (Int):=
 lp (β:=Unit) (fun (h:Int)=>
  bif (cm .lss h (a0.length:Int)) then
   (Sw.idx a0 h).bind fun u=>
    bif (decide (a1=u)) then
     some (.done (.ret h))
    else
     some (.next (ar .add .i64 h 1))
  else
   some (.done (.VP ()))
  ) 0 fun (_:Unit)=>
 some (-1:Int)
def tZ(a0:eP)(a1:aR):Option (Int×Bool):=
 (dX a0 a1).bind fun h=>
  some ((max h 0),(cm .geq h 0))
def lN(a0:(eP))(a1:(Int×aR)):Option (Oj×Bool):=
 (tZ a0 a1.2).bind fun h=>
  some ((a1.1,2,h.1,aU),h.2)
def sC(a0:Unit)(a1:(Int×aR)):Option (Oj×Bool):=
 some ((a1.1,3,0,a1.2),true)
def jB(w:lH)(p0:(Int×aR)):Option (Oj×Bool):=match w with
 | .inl z=>uS z p0
 | .inr (.inl z)=>nY z p0
 | .inr (.inr (.inl z))=>lN z p0
 | .inr (.inr (.inr (.inl z)))=>sC z p0
 | .inr (.inr (.inr (.inr _)))=>none
def qU(a0:mF)(a1 a2:eP):Option (mO×dT):=
 (nX a1 a2).bind fun D=>
  bif (Option.isSome D) then
   some (([]:mO),D)
  else
   lp (β:=Unit) (fun (u:Int×Int)=>
    bif (cm .lss u.2 (a0.length:Int)) then
     (Sw.idx a0 u.2).bind fun A=>
      (bif (cm .leq A.1 u.1) then
       some true
      else
       some (cm .geq A.1 (a1.length:Int))).bind fun G=>
       bif G then
        some (.done (.ret (([]:mO),(some 1))))
       else
        some (.next (A.1,(ar .add .i64 u.2 1)))
    else
     some (.done (.VP ()))
    ) ((-1:Int),0) fun (_:Unit)=>
   (vL a1).bind fun z=>
    bif (Option.isSome z.2) then
     some (([]:mO),z.2)
    else
     lp (β:=mO) (fun (h:Int×mO)=>
      bif (cm .lss h.1 (a0.length:Int)) then
       jp (fun (H:mO)=>
        some (.next ((ar .add .i64 h.1 1),H))
        ) fun E=>
       (Sw.idx a0 h.1).bind fun B=>
        (Sw.idx a1 B.1).bind fun I=>
         bif (decide (I=B.2)) then
          E h.2
         else
          lp (β:=mO) (fun (C:Int)=>
           bif (cm .lss C (([(.inl ():lH),(.inr (.inl z.1):lH),(.inr (.inr (.inl a2)):lH),(.inr (.inr (.inr (.inl ()))):lH)]:(List lH)).length:Int)) then
            (Sw.idx ([(.inl ():lH),(.inr (.inl z.1):lH),(.inr (.inr (.inl a2)):lH),(.inr (.inr (.inr (.inl ()))):lH)]:(List lH)) C).bind fun K=>
             (jB K B).bind fun F=>
              bif F.2 then
               (Sw.app h.2 ([F.1]:mO)).bind fun L=>
                some (.done (.VP L))
              else
               some (.next (ar .add .i64 C 1))
           else
            some (.done (.VP h.2))
           ) 0 fun (M:mO)=>
          E M
      else
       some (.done (.VP h.2))
      ) (0,([]:mO)) fun (N:mO)=>
     some (N,(none:Option Int))
def qV(a0:(Int×mF))(a1:eP)(a2:Int):Option ((Int×cY×eP)×Bool):=
 (qU a0.2 a1 ([]:eP)).bind fun z=>
  bif (Option.isSome z.2) then
   some ((0,([]:cY),([]:eP)),false)
  else
   lp (β:=cY×eP) (fun (h:Int×cY×eP)=>
    bif (cm .lss h.1 (z.1.length:Int)) then
     (Sw.idx z.1 h.1).bind fun u=>
      (Sw.app h.2.1 ([(ar .or .i64 (ar .or .i64 (sh .shl .i64 u.1 8) (sh .shl .i64 u.2.1 6)) u.2.2.1)]:cY)).bind fun B=>
       bif (cm .eql u.2.1 3) then
        (Sw.app h.2.2 ([u.2.2.2]:eP)).bind fun C=>
         some (.next ((ar .add .i64 h.1 1),B,C))
       else
        some (.next ((ar .add .i64 h.1 1),B,h.2.2))
    else
     some (.done (.VP (h.2.1,h.2.2)))
    ) (0,([a2,a0.1]:cY),([]:eP)) fun (A:cY×eP)=>
   some ((4,A.1,A.2),(cm .leq (A.1.length:Int) 9))
def dL(b0 b1 b2 b3:Int)(b4:eP)(b5:pO)(b6:rX)(b7:Int)(b8:qF)(b9 WA:Int)(VZ:cY)(WG VV WC VY:Int)(WB:rH)(VS:mN)(WO:Int)(WN:dK)(WM:Int)(WL:dK):Option ((Int×cY×eP)):=
 (nE b5 b1 b9).bind fun h=>
  (bif (Option.isNone h.2.2) then
   some h.2.1
  else
   some false).bind fun A=>
   jp (fun (_:Unit)=>
    some (5,([b2]:cY),((fJ b6 b2).getD ([]:eP)))
    ) fun u=>
   bif A then
    bif (fJ b6 b9).isSome then
     (qV h.1 ((fJ b6 b9).getD ([]:eP)) b9).bind fun z=>
      bif z.2 then
       some z.1
      else
       u ()
    else
     u ()
   else
    u ()
def pQ(a0:Int):Option (Bool):=
 (bif (cm .lss a0 0) then
  some true
 else
  some (cm .gtr a0 2147483647)).bind fun h=>
  some h
def dW(a0:cY):Option (Int):=
 lp (β:=Unit) (fun (h:Int)=>
  bif (cm .lss h (a0.length:Int)) then
   (Sw.idx a0 h).bind fun u=>
    (pQ u).bind fun z=>
     bif z then
      some (.done (.ret h))
     else
      some (.next (ar .add .i64 h 1))
  else
   some (.done (.VP ()))
  ) 0 fun (_:Unit)=>
 some (-1:Int)
def cW(a0:cY):Option (Bool):=
 (dW a0).bind fun h=>
  some (cm .geq h 0)
def qB(a0:cY):Option (Bool):=
 (cW a0).bind fun h=>
  some (!h)
def tN(a0:(Int×cY×eP)):Option (dT):=
 (pZ a0).bind fun h=>
  bif (Option.isSome h) then
   some h
  else
   bif (cm .gtr (a0.2.1.length:Int) 9) then
    some (some 2)
   else
    some (none:Option Int)
def pE(a0:qF):Option (dT):=
 (qB ([a0.1,a0.2.1]:cY)).bind fun z=>
  bif (!z) then
   some (some 1)
  else
   bif (cm .gtr (a0.2.2.length:Int) 64) then
    some (some 2)
   else
    lp (β:=Unit) (fun (h:Int)=>
     bif (cm .lss h (a0.2.2.length:Int)) then
      (Sw.idx a0.2.2 h).bind fun A=>
       (tN A).bind fun u=>
        bif (Option.isSome u) then
         some (.done (.ret u))
        else
         some (.next (ar .add .i64 h 1))
     else
      some (.done (.VP ()))
     ) 0 fun (_:Unit)=>
    some (none:Option Int)
def qW(a0:(Bool×cY)):Option (cY):=
 bif a0.1 then
  some ([]:cY)
 else
  (Sw.app ([]:cY) a0.2).bind fun h=>
   some h
def kU(a0:cY):Option cY:=Sw.app [] a0
def mS(a0:(Int×cY×eP)):Option ((Int×cY×eP)):=
 (kU a0.2.1).bind fun h=>
  (aO a0.2.2).bind fun u=>
   some (a0.1,h,u)
def rN(a0:wK):Option (wK):=
 lp (β:=wK) (fun (h:Int×wK)=>
  bif (cm .lss h.1 (a0.length:Int)) then
   (Sw.idx a0 h.1).bind fun u=>
    (mS u).bind fun z=>
     (Sw.app h.2 ([z]:wK)).bind fun A=>
      some (.next ((ar .add .i64 h.1 1),A))
  else
   some (.done (.VP h.2))
  ) (0,([]:wK)) fun (B:wK)=>
 some B
def uA(a0:qF)(a1:(Int×cY×eP)):Option (qF×dT):=
 (pE a0).bind fun h=>
  bif (Option.isSome h) then
   some ((0,0,([]:wK)),h)
  else
   (tN a1).bind fun u=>
    bif (Option.isSome u) then
     some ((0,0,([]:wK)),u)
    else
     (bif (cm .eql (a0.2.2.length:Int) 64) then
      some true
     else
      some (cm .geq (ar .add .i64 a0.2.1 (a0.2.2.length:Int)) 2147483647)).bind fun z=>
      bif z then
       some ((0,0,([]:wK)),(some 2))
      else
       (rN a0.2.2).bind fun A=>
        (mS a1).bind fun B=>
         (Sw.app A ([B]:wK)).bind fun C=>
          some ((a0.1,a0.2.1,C),(none:Option Int))
def pA(a0:qF):Option ((List cY)×dT):=
 (pE a0).bind fun A=>
  bif (Option.isSome A) then
   some (([]:(List cY)),A)
  else
   (Sw.sub a0.2.2 0 (min (a0.2.2.length:Int) 4)).bind fun B=>
    lp (β:=(List cY)) (fun (h:Int×(List cY))=>
     bif (cm .lss h.1 (B.length:Int)) then
      (Sw.idx B h.1).bind fun u=>
       bif (cm .gtr (ar .add .i64 a0.2.1 h.1) 2147483647) then
        some (.done (.ret (([]:(List cY)),(some 1))))
       else
        (Sw.app ([a0.1,(ar .add .i64 a0.2.1 h.1),u.1]:cY) u.2.1).bind fun C=>
         (mR (1,C,u.2.2)).bind fun z=>
          bif (Option.isSome z.2) then
           some (.done (.ret (([]:(List cY)),z.2)))
          else
           (Sw.app h.2 ([z.1]:(List cY))).bind fun D=>
            some (.next ((ar .add .i64 h.1 1),D))
     else
      some (.done (.VP h.2))
     ) (0,([]:(List cY))) fun (E:(List cY))=>
    some (E,(none:Option Int))
def eC(b0 b1 b2 b3:Int)(b4:eP)(b5:pO)(b6:rX)(b7:Int)(b8:qF)(b9 WA:Int)(VZ:cY)(WG VV WC VY:Int)(WB:rH)(VS:mN)(WO:Int)(WN:dK)(WM:Int)(WL:dK):Option (dT×qF×Int×cY×mN):=
 (iQ true (2,([b3]:cY),([]:eP)) b0 b1 b2 b3 b4 b5 b6 b7 b8 b9 WA VZ WG VV WC VY WB VS WO WN WM WL).bind fun u=>
  (bif (Option.isSome u.1) then
   some true
  else
   some (cm .lss b7 0)).bind fun E=>
   bif E then
    some (u.1,b8,b9,VZ,u.2)
   else
    (bif (cm .lss b9 b2) then
     some (cm .eql (b8.2.2.length:Int) 0)
    else
     some false).bind fun F=>
     jp (fun (h:qF×Int×cY)=>
      (pA h.1).bind fun A=>
       lp (β:=mN) (fun (z:Int×mN)=>
        bif (cm .lss z.1 (A.1.length:Int)) then
         (Sw.idx A.1 z.1).bind fun C=>
          (FZ C).bind fun _=>
           (eB true (false,C) b0 b1 b2 b3 b4 b5 b6 b7 h.1 h.2.1 WA h.2.2 WG VV WC VY WB z.2 WO WN WM WL).bind fun G=>
            some (.next ((ar .add .i64 z.1 1),G))
        else
         some (.done (.VP z.2))
        ) (0,u.2) fun (H:mN)=>
       some (A.2,h.1,h.2.1,h.2.2,H)
      ) fun D=>
     bif F then
      (dL b0 b1 b2 b3 b4 b5 b6 b7 b8 b9 WA VZ WG VV WC VY WB u.2 WO WN WM WL).bind fun I=>
       (uA b8 I).bind fun B=>
        bif (Option.isSome B.2) then
         some (B.2,b8,b9,VZ,u.2)
        else
         (Sw.app VZ ([b2]:cY)).bind fun K=>
          D (B.1,b2,K)
     else
      D (b8,b9,VZ)
def nQ(a1:Oj)(b0 b1 b2 b3:Int)(b4:eP)(b5:pO)(b6:rX)(b7:Int)(b8:qF)(b9 WA:Int)(VZ:cY)(WG VV WC VY:Int)(WB:rH)(VS:mN)(WO:Int)(WN:dK)(WM:Int)(WL:dK):Option (aR×dT×Int×Int×Int×Int×eP×pO×rX×Int×qF×Int×Int×cY×Int×Int×Int×Int×rH×mN×Int×dK×Int×dK):=
 (eC b0 b1 b2 b3 b4 b5 b6 b7 b8 b9 WA VZ WG VV WC VY WB VS WO WN WM WL).bind fun h=>
  some (aU,h.1,b0,b1,b2,b3,b4,b5,b6,b7,h.2.1,h.2.2.1,WA,h.2.2.2.1,WG,VV,WC,VY,WB,h.2.2.2.2,WO,WN,WM,WL)
def cE(a1 b0 b1 b2 b3:Int)(b4:eP)(b5:pO)(b6:rX)(b7:Int)(b8:qF)(b9 WA:Int)(VZ:cY)(WG VV WC VY:Int)(WB:rH)(VS:mN)(WO:Int)(WN:dK)(WM:Int)(WL:dK):Option (Int×Bool):=
 bif (cm .eql (VS.length:Int) 0) then
  some (0,false)
 else
  (nz (VS.length:Int)).bind fun _=>
   some ((ar .rem .i64 (max a1 (IntKind.wrap .i64 (0 - (ar .add .i64 a1 1)))) (VS.length:Int)),true)
def gX(a0:(Bool×mN)):Option (mN):=
 bif a0.1 then
  some ([]:mN)
 else
  (Sw.app ([]:mN) a0.2).bind fun h=>
   some h
def cX(a0:mN):Option mN:=Sw.app [] a0
def cS(a0:mN)(a1 a2:Int):Option mN:=Sw.del a0 a1 a2
def eX(VF:cY):Option (Int×Bool×cY):=
 bif (cm .eql (VF.length:Int) 0) then
  some (0,false,VF)
 else
  (Sw.idx VF 0).bind fun h=>
   (Sw.sub VF 1 (VF.length:Int)).bind fun u=>
    some (h,true,u)
def gE(VF:cY):Option (Int×Bool×cY):=
 lp (β:=cY) (fun (h:Int×Int×cY)=>
  bif (cm .lss h.2.1 35) then
   (eX h.2.2).bind fun u=>
    bif (!u.2.1) then
     some (.done (.ret (0,false,u.2.2)))
    else
     (nn h.2.1).bind fun _=>
      bif (cm .lss u.1 128) then
       (bif (cm .leq (ar .or .i64 h.1 (sh .shl .i64 (ar .and .u8 u.1 127) h.2.1)) 2147483647) then
        bif (cm .gtr u.1 0) then
         some true
        else
         some (cm .eql h.2.1 0)
       else
        some false).bind fun z=>
        some (.done (.ret ((ar .or .i64 h.1 (sh .shl .i64 (ar .and .u8 u.1 127) h.2.1)),z,u.2.2)))
      else
       some (.next ((ar .or .i64 h.1 (sh .shl .i64 (ar .and .u8 u.1 127) h.2.1)),(ar .add .i64 h.2.1 7),u.2.2))
  else
   some (.done (.VP h.2.2))
  ) (0,0,VF) fun (A:cY)=>
 some (0,false,A)
def jQ(a0:cY)(a1:Int):Option ((cY×Int)):=
 jp (fun (_:Unit)=>
  some (a0,a1)
  ) fun h=>
 bif (cm .lss a1 1) then
  none
 else
  h ()
def fL(a0:cY):Option ((Int×cY×eP)×dT):=
 bif (cm .lss (a0.length:Int) 6) then
  some ((0,([]:cY),([]:eP)),(some 3))
 else
  (Sw.sub a0 0 (ar .sub .i64 (a0.length:Int) 4)).bind fun C=>
   (tM C).bind fun u=>
    (Sw.sub a0 (C.length:Int) (a0.length:Int)).bind fun G=>
     (Sw.m7 4 G).bind fun H=>
      bif (!decide (H=([(IntKind.wrap .u8 (sh .shr .u32 u 24)),(IntKind.wrap .u8 (sh .shr .u32 u 16)),(IntKind.wrap .u8 (sh .shr .u32 u 8)),(IntKind.wrap .u8 u)]:cY))) then
       some ((0,([]:cY),([]:eP)),(some 3))
      else
       (eX C).bind fun D=>
        (eX D.2.2).bind fun E=>
         lp (β:=cY×cY) (fun (h:Int×cY×cY)=>
          bif (cm .lss h.1 (ar .and .u8 D.1 15)) then
           (gE h.2.1).bind fun F=>
            bif (!F.2.1) then
             some (.done (.ret ((0,([]:cY),([]:eP)),(some 3))))
            else
             (Sw.app h.2.2 ([F.1]:cY)).bind fun I=>
              some (.next ((ar .add .u8 h.1 1),F.2.2,I))
          else
           some (.done (.VP (h.2.1,h.2.2)))
          ) (0,E.2.2,([]:cY)) fun (A:cY×cY)=>
         (bif (cm .gtr E.1 32) then
          some true
         else
          bif (cm .gtr (A.2.length:Int) 12) then
           some true
          else
           some (cm .neq (A.1.length:Int) (ar .mul .i64 E.1 8))).bind fun K=>
          bif K then
           some ((0,([]:cY),([]:eP)),(some 3))
          else
           (jQ A.1 8).bind fun B=>
            (Sw.small B.1).bind fun _=>
             (Sw.mr B.2).bind fun _=>
              rg (δ:=Empty) (fun (L:cY) (M:eP)=>
               (Sw.m7 8 L).bind fun N=>
                (Sw.app M ([N]:eP)).bind fun O=>
                 some (.next O)
               ) (Sw.chunks (Int.toNat B.2) B.1) ([]:eP) (fun (P:eP)=>
               some (((sh .shr .u8 D.1 4),A.2,P),(none:Option Int))
               ) fun (z:Empty)=>z.elim
def qC(a0:cY):Option (Int):=
 lp (β:=Int) (fun (h:Int×Int)=>
  bif (cm .lss h.2 (a0.length:Int)) then
   (Sw.idx a0 h.2).bind fun u=>
    some (.next ((ar .mul .u64 (ar .xor .u64 h.1 u) 1099511628211),(ar .add .i64 h.2 1)))
  else
   some (.done (.VP h.1))
  ) (14695981039346656037,0) fun (z:Int)=>
 some z
def vM(a0:aR):Option (Int):=
 (Sw.app ([0]:cY) a0).bind fun h=>
  (qC h).bind fun u=>
   some u
def iJ(a0:cY)(a1:Int):Option ((cY×Int)):=
 jp (fun (_:Unit)=>
  some (a0,a1)
  ) fun h=>
 bif (cm .lss a1 1) then
  none
 else
  h ()
def tP(a0:cY):Option (Int):=
 lp (β:=cY) (fun (u:Int×cY)=>
  bif (cm .lss u.1 (a0.length:Int)) then
   (Sw.idx a0 u.1).bind fun z=>
    lp (β:=cY) (fun (h:Int×cY)=>
     bif (cm .geq h.1 0) then
      (nn h.1).bind fun _=>
       (Sw.app h.2 ([(IntKind.wrap .u8 (sh .shr .u64 z h.1))]:cY)).bind fun A=>
        some (.next ((ar .sub .i64 h.1 8),A))
     else
      some (.done (.VP h.2))
     ) (56,u.2) fun (B:cY)=>
    some (.next ((ar .add .i64 u.1 1),B))
  else
   some (.done (.VP u.2))
  ) (0,([1]:cY)) fun (C:cY)=>
 (qC C).bind fun D=>
  some D
def rO(a0:cY):Option (cY):=
 (iJ a0 4).bind fun h=>
  (Sw.small h.1).bind fun _=>
   (Sw.mr h.2).bind fun _=>
    rg (δ:=Empty) (fun (u A:cY)=>
     (tP u).bind fun B=>
      (Sw.app A ([B]:cY)).bind fun C=>
       some (.next C)
     ) (Sw.chunks (Int.toNat h.2) h.1) ([]:cY) (fun (D:cY)=>
     some D
     ) fun (z:Empty)=>z.elim
def zP(a0:eP):Option (((List cY))×dT):=
 (bif (cm .lss (a0.length:Int) 1) then
  some true
 else
  some (cm .gtr (a0.length:Int) 32)).bind fun B=>
  bif B then
   some (([]:(List cY)),(some 1))
  else
   lp (β:=cY) (fun (h:Int×cY)=>
    bif (cm .lss h.1 (a0.length:Int)) then
     (Sw.idx a0 h.1).bind fun C=>
      (vM C).bind fun D=>
       (Sw.app h.2 ([D]:cY)).bind fun E=>
        some (.next ((ar .add .i64 h.1 1),E))
    else
     some (.done (.VP h.2))
    ) (0,([]:cY)) fun (z:cY)=>
   lp (β:=(List cY)) (fun (u:cY×(List cY))=>
    bif (cm .gtr (u.1.length:Int) 1) then
     (rO u.1).bind fun A=>
      (Sw.app u.2 ([A]:(List cY))).bind fun F=>
       some (.next (A,F))
    else
     some (.done (.VP u.2))
    ) (z,([z]:(List cY))) fun (G:(List cY))=>
   some (G,(none:Option Int))
def pR(a0:Int):Option (cY):=
 some ([(IntKind.wrap .i64 (sh .shr .u64 a0 33)),(IntKind.wrap .i64 (ar .and .u64 (sh .shr .u64 a0 2) 2147483647))]:cY)
def jR(a0:eP):Option (cY):=
 (zP a0).bind fun h=>
  bif (Option.isSome h.2) then
   some ([]:cY)
  else
   (Sw.idx h.1 (ar .sub .i64 (h.1.length:Int) 1)).bind fun u=>
    (Sw.idx u 0).bind fun z=>
     (pR z).bind fun A=>
      some A
def nZ(a0:rH)(a1:cY):Option (rH×(Int×cY×eP)×Bool×(Bool×cY)×dT):=
 (qB ([a0.1,a0.2]:cY)).bind fun B=>
  bif (!B) then
   some ((0,0),(0,([]:cY),([]:eP)),false,(true,([]:cY)),(some 1))
  else
   (fL a1).bind fun h=>
    (bif (Option.isSome h.2) then
     some true
    else
     bif (cm .neq h.1.1 1) then
      some true
     else
      bif (cm .lss (h.1.2.1.length:Int) 3) then
       some true
      else
       (Sw.idx h.1.2.1 0).bind fun C=>
        bif (cm .neq C a0.1) then
         some true
        else
         (Sw.idx h.1.2.1 2).bind fun D=>
          some (cm .gtr D 15)).bind fun E=>
     bif E then
      some (a0,(0,([]:cY),([]:eP)),false,(true,([]:cY)),(none:Option Int))
     else
      ((Sw.idx h.1.2.1 1).bind fun F=>
       bif (cm .eql F a0.2) then
        some (cm .lss a0.2 2147483647)
       else
        some false).bind fun G=>
       jp (fun (u:Bool×Int×Int×cY×eP)=>
        (mR (0,([a0.1,u.2.1]:cY),([]:eP))).bind fun z=>
         (FZ z.1).bind fun _=>
          some ((a0.1,u.2.1),u.2.2,u.1,(false,z.1),z.2)
        ) fun A=>
       bif G then
        (Sw.idx h.1.2.1 2).bind fun H=>
         (Sw.sub h.1.2.1 3 (h.1.2.1.length:Int)).bind fun I=>
          A (true,(ar .add .i64 a0.2 1),H,I,h.1.2.2)
       else
        A (false,a0.2,0,([]:cY),([]:eP))
def gQ(a1:mF)(a2 b0 b1 b2 b3:Int)(b4:eP)(b5:pO)(b6:rX)(b7:Int)(b8:qF)(b9 WA:Int)(VZ:cY)(WG VV WC VY:Int)(WB:rH)(VS:mN)(WO:Int)(WN:dK)(WM:Int)(WL:dK):Option (dT×Int×Int×dK):=
 (cU WM WL a1 a2 WC).bind fun h=>
  bif (Option.isSome h.1) then
   some (h.1,VV,h.2.1,h.2.2)
  else
   some ((none:Option Int),a2,h.2.1,h.2.2)
def oA(a0:(Int×cY×eP)):Option (mO×Bool):=
 (Sw.sub a0.2.1 2 (a0.2.1.length:Int)).bind fun z=>
  lp (β:=eP×mO) (fun (h:eP×Int×mO)=>
   bif (cm .lss h.2.1 (z.length:Int)) then
    (Sw.idx z h.2.1).bind fun u=>
     jp (fun (A:eP×aR)=>
      (Sw.app h.2.2 ([((sh .shr .i64 u 8),(ar .and .i64 (sh .shr .i64 u 6) 3),(ar .and .i64 u 63),A.2)]:mO)).bind fun D=>
       some (.next (A.1,(ar .add .i64 h.2.1 1),D))
      ) fun B=>
     bif (cm .eql (ar .and .i64 (sh .shr .i64 u 6) 3) 3) then
      bif (cm .eql (h.1.length:Int) 0) then
       some (.done (.ret (([]:mO),false)))
      else
       (Sw.idx h.1 0).bind fun E=>
        (Sw.sub h.1 1 (h.1.length:Int)).bind fun F=>
         B (F,E)
     else
      B (h.1,aU)
   else
    some (.done (.VP (h.1,h.2.2)))
   ) (a0.2.2,0,([]:mO)) fun (C:eP×mO)=>
  some (C.2,(cm .eql (C.1.length:Int) 0))
def tA(a0:eP)(a1:Int):Option (aR×Bool):=
 (bif (cm .lss a1 0) then
  some true
 else
  some (cm .geq a1 (a0.length:Int))).bind fun h=>
  bif h then
   some (aU,false)
  else
   (Sw.idx a0 a1).bind fun u=>
    some (u,true)
def pG(a0:mO)(a1 a2:eP):Option (mF×cY×dT):=
 (nX a1 a2).bind fun B=>
  bif (Option.isSome B) then
   some (([]:mF),([]:cY),B)
  else
   lp (β:=Unit) (fun (A:Int×Int)=>
    bif (cm .lss A.2 (a0.length:Int)) then
     (Sw.idx a0 A.2).bind fun z=>
      (bif (cm .leq z.1 A.1) then
       some true
      else
       bif (cm .geq z.1 (a1.length:Int)) then
        some true
       else
        bif (cm .lss z.2.1 0) then
         some true
        else
         some (cm .gtr z.2.1 3)).bind fun F=>
       bif F then
        some (.done (.ret (([]:mF),([]:cY),(some 1))))
       else
        some (.next (z.1,(ar .add .i64 A.2 1)))
    else
     some (.done (.VP ()))
    ) ((-1:Int),0) fun (_:Unit)=>
   lp (β:=mF×cY) (fun (h:Int×mF×cY)=>
    bif (cm .lss h.1 (a0.length:Int)) then
     (Sw.idx a0 h.1).bind fun u=>
      bif (cm .eql u.2.1 1) then
       (tA a1 u.2.2.1).bind fun C=>
        bif C.2 then
         (Sw.app h.2.1 ([(u.1,C.1)]:mF)).bind fun G=>
          some (.next ((ar .add .i64 h.1 1),G,h.2.2))
        else
         (Sw.app h.2.2 ([u.1]:cY)).bind fun H=>
          some (.next ((ar .add .i64 h.1 1),h.2.1,H))
      else
       bif (cm .eql u.2.1 2) then
        (tA a2 u.2.2.1).bind fun D=>
         bif D.2 then
          (Sw.app h.2.1 ([(u.1,D.1)]:mF)).bind fun I=>
           some (.next ((ar .add .i64 h.1 1),I,h.2.2))
         else
          (Sw.app h.2.2 ([u.1]:cY)).bind fun K=>
           some (.next ((ar .add .i64 h.1 1),h.2.1,K))
       else
        bif (cm .eql u.2.1 3) then
         (Sw.app h.2.1 ([(u.1,u.2.2.2)]:mF)).bind fun L=>
          some (.next ((ar .add .i64 h.1 1),L,h.2.2))
        else
         (Sw.app h.2.1 ([(u.1,aU)]:mF)).bind fun M=>
          some (.next ((ar .add .i64 h.1 1),M,h.2.2))
    else
     some (.done (.VP (h.2.1,h.2.2)))
    ) (0,([]:mF),([]:cY)) fun (E:mF×cY)=>
   some (E.1,E.2,(none:Option Int))
def fB(a1:(Int×cY×eP))(b0 b1 b2 b3:Int)(b4:eP)(b5:pO)(b6:rX)(b7:Int)(b8:qF)(b9 WA:Int)(VZ:cY)(WG VV WC VY:Int)(WB:rH)(VS:mN)(WO:Int)(WN:dK)(WM:Int)(WL:dK):Option (dT×Int×Int×dK):=
 (bif (cm .eql a1.1 5) then
  bif (cm .eql (a1.2.1.length:Int) 1) then
   bif (cm .eql (a1.2.2.length:Int) WG) then
    (Sw.idx a1.2.1 0).bind fun D=>
     some (cm .gtr D VV)
   else
    some false
  else
   some false
 else
  some false).bind fun E=>
  bif E then
   lp (β:=mF) (fun (h:Int×mF)=>
    bif (cm .lss h.1 (a1.2.2.length:Int)) then
     (Sw.idx a1.2.2 h.1).bind fun F=>
      (Sw.app h.2 ([(h.1,F)]:mF)).bind fun G=>
       some (.next ((ar .add .i64 h.1 1),G))
    else
     some (.done (.VP h.2))
    ) (0,([]:mF)) fun (H:mF)=>
   (Sw.idx a1.2.1 0).bind fun I=>
    (gQ H I b0 b1 b2 b3 b4 b5 b6 b7 b8 b9 WA VZ WG VV WC VY WB VS WO WN WM WL).bind fun u=>
     some (u.1,u.2.1,u.2.2.1,u.2.2.2)
  else
   (bif (cm .eql a1.1 4) then
    bif (cm .geq (a1.2.1.length:Int) 2) then
     (Sw.idx a1.2.1 0).bind fun K=>
      bif (cm .eql K VV) then
       (Sw.idx a1.2.1 1).bind fun L=>
        some (cm .gtr L VV)
      else
       some false
    else
     some false
   else
    some false).bind fun M=>
    bif M then
     (fZ (WM,WL)).bind fun A=>
      bif (Option.isSome A.2) then
       some (A.2,VV,WM,WL)
      else
       (oA a1).bind fun C=>
        (pG C.1 A.1 ([]:eP)).bind fun B=>
         (bif (!C.2) then
          some true
         else
          bif (Option.isSome B.2.2) then
           some true
          else
           some (cm .gtr (B.2.1.length:Int) 0)).bind fun N=>
          bif N then
           some ((none:Option Int),VV,WM,WL)
          else
           (Sw.idx a1.2.1 1).bind fun O=>
            (gQ B.1 O b0 b1 b2 b3 b4 b5 b6 b7 b8 b9 WA VZ WG VV WC VY WB VS WO WN WM WL).bind fun z=>
             some (z.1,z.2.1,z.2.2.1,z.2.2.2)
    else
     some ((none:Option Int),VV,WM,WL)
def cN(a1:cY)(b0 b1 b2 b3:Int)(b4:eP)(b5:pO)(b6:rX)(b7:Int)(b8:qF)(b9 WA:Int)(VZ:cY)(WG VV WC VY:Int)(WB:rH)(VS:mN)(WO:Int)(WN:dK)(WM:Int)(WL:dK):Option (dT×Int×Int×rH×mN×Int×dK):=
 (fL a1).bind fun A=>
  (bif (Option.isNone A.2) then
   bif (cm .eql A.1.1 2) then
    some (cm .eql (A.1.2.1.length:Int) 1)
   else
    some false
  else
   some false).bind fun G=>
   bif G then
    (Sw.idx A.1.2.1 0).bind fun H=>
     jp (fun (u:Int×rH)=>
      (fZ (WM,WL)).bind fun C=>
       (bif (Option.isSome C.2) then
        some true
       else
        (Sw.idx A.1.2.1 0).bind fun I=>
         some (cm .lss I u.1)).bind fun K=>
        bif K then
         some (C.2,VV,u.1,u.2,VS,WM,WL)
        else
         (jR C.1).bind fun L=>
          (Sw.app ([u.1,WC,VV]:cY) L).bind fun M=>
           (iQ false (3,M,([]:eP)) b0 b1 b2 b3 b4 b5 b6 b7 b8 b9 WA VZ WG VV WC u.1 u.2 VS WO WN WM WL).bind fun D=>
            some (D.1,VV,u.1,u.2,D.2,WM,WL)
      ) fun E=>
     bif (cm .gtr H VY) then
      (Sw.idx A.1.2.1 0).bind fun N=>
       (Sw.idx A.1.2.1 0).bind fun O=>
        E (N,((ar .or .i64 (sh .shl .i64 O 12) WC),0))
     else
      E (VY,WB)
   else
    bif (cm .lss VY 0) then
     some ((none:Option Int),VV,VY,WB,VS,WM,WL)
    else
     (nZ WB a1).bind fun h=>
      bif (Option.isSome h.2.2.2.2) then
       some (h.2.2.2.2,VV,VY,WB,VS,WM,WL)
      else
       jp (fun (B:Int×Int×dK)=>
        (eB false h.2.2.2.1 b0 b1 b2 b3 b4 b5 b6 b7 b8 b9 WA VZ WG B.1 WC VY h.1 VS WO WN B.2.1 B.2.2).bind fun P=>
         some ((none:Option Int),B.1,VY,h.1,P,B.2.1,B.2.2)
        ) fun F=>
       bif h.2.2.1 then
        (fB h.2.1 b0 b1 b2 b3 b4 b5 b6 b7 b8 b9 WA VZ WG VV WC VY h.1 VS WO WN WM WL).bind fun z=>
         bif (Option.isSome z.1) then
          some (z.1,z.2.1,VY,h.1,VS,z.2.2.1,z.2.2.2)
         else
          F (z.2.1,z.2.2.1,z.2.2.2)
       else
        F (VV,WM,WL)
def jC(a0 a1:cY):Option (Bool):=
 bif (cm .neq (a0.length:Int) (a1.length:Int)) then
  some false
 else
  lp (β:=Unit) (fun (h:Int)=>
   bif (cm .lss h (a0.length:Int)) then
    (Sw.idx a0 h).bind fun u=>
     (Sw.idx a1 h).bind fun z=>
      bif (cm .neq u z) then
       some (.done (.ret false))
      else
       some (.next (ar .add .i64 h 1))
   else
    some (.done (.VP ()))
   ) 0 fun (_:Unit)=>
  some true
def rP(a0:qF)(a1:cY):Option (qF×dT):=
 (pE a0).bind fun A=>
  bif (Option.isSome A) then
   some ((0,0,([]:wK)),A)
  else
   (rN a0.2.2).bind fun u=>
    (fL a1).bind fun h=>
     (bif (Option.isSome h.2) then
      some true
     else
      bif (cm .neq h.1.1 0) then
       some true
      else
       bif (cm .neq (h.1.2.1.length:Int) 2) then
        some true
       else
        bif (cm .gtr (h.1.2.2.length:Int) 0) then
         some true
        else
         (Sw.idx h.1.2.1 0).bind fun D=>
          some (cm .neq D a0.1)).bind fun E=>
      bif E then
       some ((a0.1,a0.2.1,u),(none:Option Int))
      else
       (Sw.idx h.1.2.1 1).bind fun z=>
        (bif (cm .gtr (ar .sub .i64 z a0.2.1) 0) then
         some (cm .leq (ar .sub .i64 z a0.2.1) (min (u.length:Int) 4))
        else
         some false).bind fun F=>
         jp (fun (B:Int×wK)=>
          some ((a0.1,B.1,B.2),(none:Option Int))
          ) fun C=>
         bif F then
          (Sw.idx h.1.2.1 1).bind fun G=>
           (Sw.sub u (ar .sub .i64 z a0.2.1) (u.length:Int)).bind fun H=>
            C (G,H)
         else
          C (a0.2.1,u)
def oB(a0:(Int×mF))(a1:Int):Option (Bool):=
 some (cm .leq a0.1 a1)
def cD(a0:sB)(WQ:Int):Option (Int):=
 lp (β:=Unit) (fun (h:Int)=>
  bif (cm .lss h (a0.length:Int)) then
   (Sw.idx a0 h).bind fun u=>
    (oB u WQ).bind fun z=>
     bif z then
      some (.done (.ret h))
     else
      some (.next (ar .add .i64 h 1))
  else
   some (.done (.VP ()))
  ) 0 fun (_:Unit)=>
 some (-1:Int)
def bY(a0:sB)(WQ:Int):Option (sB):=
 (cD a0 WQ).bind fun z=>
  bif (cm .eql z (-1:Int)) then
   some a0
  else
   lp (β:=Int×sB) (fun (h:Int×Int×sB)=>
    bif (cm .lss h.2.1 (h.2.2.length:Int)) then
     (Sw.idx h.2.2 h.2.1).bind fun A=>
      (oB A WQ).bind fun B=>
       bif (!B) then
        (Sw.idx h.2.2 h.1).bind fun _=>
         some (.next ((ar .add .i64 h.1 1),(ar .add .i64 h.2.1 1),(List.set h.2.2 (Int.toNat h.1) A)))
       else
        some (.next (h.1,(ar .add .i64 h.2.1 1),h.2.2))
    else
     some (.done (.VP (h.1,h.2.2)))
    ) (z,(ar .add .i64 z 1),a0) fun (u:Int×sB)=>
   (Sw.sub u.2 u.1 (u.2.length:Int)).bind fun _=>
    (Sw.sub (List.take (Int.toNat u.1) u.2++List.replicate (u.2.length - Int.toNat u.1) (0,([]:mF))) 0 u.1).bind fun C=>
     some C
def pH(a0:pO)(a1 a2:Int):Option (pO×dT):=
 (kZ a0 a1).bind fun u=>
  bif (Option.isSome u) then
   some ((0,([]:mF),([]:sB),false),u)
  else
   (bif (cm .lss a2 0) then
    some true
   else
    some (cm .gtr a2 a0.1)).bind fun A=>
    bif A then
     some ((0,([]:mF),([]:sB),false),(some 1))
    else
     (nD a0).bind fun h=>
      (bY h.2.2.1 a2).bind fun B=>
       jp (fun (C:Bool)=>
        some ((h.1,h.2.1,B,C),(none:Option Int))
        ) fun z=>
       bif (cm .eql a2 h.1) then
        z false
       else
        z h.2.2.2
def cR(a1:cY)(b0 b1 b2 b3:Int)(b4:eP)(b5:pO)(b6:rX)(b7:Int)(b8:qF)(b9 WA:Int)(VZ:cY)(WG VV WC VY:Int)(WB:rH)(VS:mN)(WO:Int)(WN:dK)(WM:Int)(WL:dK):Option (dT×pO×Int×qF×Int×Int×cY):=
 (fL a1).bind fun h=>
  (bif (Option.isNone h.2) then
   bif (cm .eql h.1.1 3) then
    bif (cm .eql (h.1.2.1.length:Int) 5) then
     (Sw.idx h.1.2.1 0).bind fun K=>
      some (cm .eql K b3)
    else
     some false
   else
    some false
  else
   some false).bind fun L=>
   bif L then
    (Sw.idx h.1.2.1 0).bind fun B=>
     (Sw.idx h.1.2.1 1).bind fun C=>
      jp (fun (u:Int×qF×Int×Int×cY)=>
       some ((none:Option Int),b5,u.1,u.2.1,u.2.2.1,u.2.2.2.1,u.2.2.2.2)
       ) fun E=>
      bif (cm .gtr (ar .or .i64 (sh .shl .i64 B 12) C) b7) then
       (Sw.idx h.1.2.1 2).bind fun D=>
        (bif (!((fJ b6 D).isSome)) then
         some true
        else
         (jR ((fJ b6 D).getD ([]:eP))).bind fun M=>
          (Sw.sub h.1.2.1 3 (h.1.2.1.length:Int)).bind fun N=>
           (jC M N).bind fun O=>
            some (!O)).bind fun P=>
         jp (fun (Q:Int)=>
          (Sw.idx h.1.2.1 2).bind fun R=>
           E ((ar .or .i64 (sh .shl .i64 B 12) C),((ar .or .i64 (sh .shl .i64 B 12) C),0,([]:wK)),Q,(max WA R),([]:cY))
          ) fun F=>
         bif P then
          F (-1:Int)
         else
          F D
      else
       E (b7,b8,b9,WA,VZ)
   else
    bif (cm .lss b7 0) then
     some ((none:Option Int),b5,b7,b8,b9,WA,VZ)
    else
     (rP b8 a1).bind fun z=>
      bif (Option.isSome z.2) then
       some (z.2,b5,b7,b8,b9,WA,VZ)
      else
       (Sw.sub VZ 0 (ar .sub .i64 (b8.2.2.length:Int) (z.1.2.2.length:Int))).bind fun G=>
        lp (β:=Int) (fun (A:Int×Int)=>
         bif (cm .lss A.1 (G.length:Int)) then
          (Sw.idx G A.1).bind fun S=>
           some (.next ((ar .add .i64 A.1 1),(max A.2 S)))
         else
          some (.done (.VP A.2))
         ) (0,WA) fun (H:Int)=>
        (Sw.sub VZ (ar .sub .i64 (b8.2.2.length:Int) (z.1.2.2.length:Int)) (VZ.length:Int)).bind fun T=>
         (pH b5 b1 (min H b5.1)).bind fun I=>
          some (I.2,I.1,b7,z.1,b9,H,T)
def fV(a1:(Bool×Bool×cY))(b0 b1 b2 b3:Int)(b4:eP)(b5:pO)(b6:rX)(b7:Int)(b8:qF)(b9 WA:Int)(VZ:cY)(WG VV WC VY:Int)(WB:rH)(VS:mN)(WO:Int)(WN:dK)(WM:Int)(WL:dK):Option (dT×pO×Int×qF×Int×Int×cY×Int×Int×rH×mN×Int×dK):=
 bif a1.1 then
  (cN a1.2.2 b0 b1 b2 b3 b4 b5 b6 b7 b8 b9 WA VZ WG VV WC VY WB VS WO WN WM WL).bind fun h=>
   some (h.1,b5,b7,b8,b9,WA,VZ,h.2.1,h.2.2.1,h.2.2.2.1,h.2.2.2.2.1,h.2.2.2.2.2.1,h.2.2.2.2.2.2)
 else
  (cR a1.2.2 b0 b1 b2 b3 b4 b5 b6 b7 b8 b9 WA VZ WG VV WC VY WB VS WO WN WM WL).bind fun u=>
   some (u.1,u.2.1,u.2.2.1,u.2.2.2.1,u.2.2.2.2.1,u.2.2.2.2.2.1,u.2.2.2.2.2.2,VV,VY,WB,VS,WM,WL)
def eW(a1 b0 b1 b2 b3:Int)(b4:eP)(b5:pO)(b6:rX)(b7:Int)(b8:qF)(b9 WA:Int)(VZ:cY)(WG VV WC VY:Int)(WB:rH)(VS:mN)(WO:Int)(WN:dK)(WM:Int)(WL:dK):Option (dT×pO×Int×qF×Int×Int×cY×Int×Int×rH×mN×Int×dK):=
 (cE a1 b0 b1 b2 b3 b4 b5 b6 b7 b8 b9 WA VZ WG VV WC VY WB VS WO WN WM WL).bind fun u=>
  bif (!u.2) then
   some ((none:Option Int),b5,b7,b8,b9,WA,VZ,VV,VY,WB,VS,WM,WL)
  else
   (Sw.idx VS u.1).bind fun z=>
    (cX VS).bind fun A=>
     (cS A u.1 (ar .add .i64 u.1 1)).bind fun B=>
      (fV z b0 b1 b2 b3 b4 b5 b6 b7 b8 b9 WA VZ WG VV WC VY WB B WO WN WM WL).bind fun h=>
       some (h.1,h.2.1,h.2.2.1,h.2.2.2.1,h.2.2.2.2.1,h.2.2.2.2.2.1,h.2.2.2.2.2.2.1,h.2.2.2.2.2.2.2.1,h.2.2.2.2.2.2.2.2.1,h.2.2.2.2.2.2.2.2.2.1,h.2.2.2.2.2.2.2.2.2.2.1,h.2.2.2.2.2.2.2.2.2.2.2.1,h.2.2.2.2.2.2.2.2.2.2.2.2)
def nR(a1:Oj)(b0 b1 b2 b3:Int)(b4:eP)(b5:pO)(b6:rX)(b7:Int)(b8:qF)(b9 WA:Int)(VZ:cY)(WG VV WC VY:Int)(WB:rH)(VS:mN)(WO:Int)(WN:dK)(WM:Int)(WL:dK):Option (aR×dT×Int×Int×Int×Int×eP×pO×rX×Int×qF×Int×Int×cY×Int×Int×Int×Int×rH×mN×Int×dK×Int×dK):=
 (eW a1.2.1 b0 b1 b2 b3 b4 b5 b6 b7 b8 b9 WA VZ WG VV WC VY WB VS WO WN WM WL).bind fun h=>
  some (aU,h.1,b0,b1,b2,b3,b4,h.2.1,b6,h.2.2.1,h.2.2.2.1,h.2.2.2.2.1,h.2.2.2.2.2.1,h.2.2.2.2.2.2.1,WG,h.2.2.2.2.2.2.2.1,WC,h.2.2.2.2.2.2.2.2.1,h.2.2.2.2.2.2.2.2.2.1,h.2.2.2.2.2.2.2.2.2.2.1,WO,WN,h.2.2.2.2.2.2.2.2.2.2.2.1,h.2.2.2.2.2.2.2.2.2.2.2.2)
def fW(a1 b0 b1 b2 b3:Int)(b4:eP)(b5:pO)(b6:rX)(b7:Int)(b8:qF)(b9 WA:Int)(VZ:cY)(WG VV WC VY:Int)(WB:rH)(VS:mN)(WO:Int)(WN:dK)(WM:Int)(WL:dK):Option (dT×mN):=
 (cE a1 b0 b1 b2 b3 b4 b5 b6 b7 b8 b9 WA VZ WG VV WC VY WB VS WO WN WM WL).bind fun h=>
  jp (fun (z:mN)=>
   some ((none:Option Int),z)
   ) fun u=>
  bif h.2 then
   (cX VS).bind fun A=>
    (cS A h.1 (ar .add .i64 h.1 1)).bind fun B=>
     u B
  else
   u VS
def nS(a1:Oj)(b0 b1 b2 b3:Int)(b4:eP)(b5:pO)(b6:rX)(b7:Int)(b8:qF)(b9 WA:Int)(VZ:cY)(WG VV WC VY:Int)(WB:rH)(VS:mN)(WO:Int)(WN:dK)(WM:Int)(WL:dK):Option (aR×dT×Int×Int×Int×Int×eP×pO×rX×Int×qF×Int×Int×cY×Int×Int×Int×Int×rH×mN×Int×dK×Int×dK):=
 (fW a1.2.1 b0 b1 b2 b3 b4 b5 b6 b7 b8 b9 WA VZ WG VV WC VY WB VS WO WN WM WL).bind fun h=>
  some (aU,h.1,b0,b1,b2,b3,b4,b5,b6,b7,b8,b9,WA,VZ,WG,VV,WC,VY,WB,h.2,WO,WN,WM,WL)
def eE(a1 b0 b1 b2 b3:Int)(b4:eP)(b5:pO)(b6:rX)(b7:Int)(b8:qF)(b9 WA:Int)(VZ:cY)(WG VV WC VY:Int)(WB:rH)(VS:mN)(WO:Int)(WN:dK)(WM:Int)(WL:dK):Option (dT×mN):=
 (cE a1 b0 b1 b2 b3 b4 b5 b6 b7 b8 b9 WA VZ WG VV WC VY WB VS WO WN WM WL).bind fun h=>
  (bif h.2 then
   some (cm .lss (VS.length:Int) 64)
  else
   some false).bind fun z=>
   jp (fun (A:mN)=>
    some ((none:Option Int),A)
    ) fun u=>
   bif z then
    (Sw.idx VS h.1).bind fun B=>
     (Sw.app VS ([B]:mN)).bind fun C=>
      u C
   else
    u VS
def nT(a1:Oj)(b0 b1 b2 b3:Int)(b4:eP)(b5:pO)(b6:rX)(b7:Int)(b8:qF)(b9 WA:Int)(VZ:cY)(WG VV WC VY:Int)(WB:rH)(VS:mN)(WO:Int)(WN:dK)(WM:Int)(WL:dK):Option (aR×dT×Int×Int×Int×Int×eP×pO×rX×Int×qF×Int×Int×cY×Int×Int×Int×Int×rH×mN×Int×dK×Int×dK):=
 (eE a1.2.1 b0 b1 b2 b3 b4 b5 b6 b7 b8 b9 WA VZ WG VV WC VY WB VS WO WN WM WL).bind fun h=>
  some (aU,h.1,b0,b1,b2,b3,b4,b5,b6,b7,b8,b9,WA,VZ,WG,VV,WC,VY,WB,h.2,WO,WN,WM,WL)
def lO(a0:(Int×dK)):Option (dK):=
 (aO a0.2.1).bind fun h=>
  (bV a0.2.2.1).bind fun u=>
   some (h,u,a0.2.2.2)
def iA(VF:Int)(VL:dK)(a1:Int):Option ((Option (Int×dK))×dT×Int×dK):=
 (lO (VF,VL)).bind fun z=>
  (mQ z a1).bind fun h=>
   xE h.1 (
    some ((none:(Option (Int×dK))),h.2,VF,VL)
    ) fun u=>
    some ((some (u.1,u.2)),h.2,VF,VL)
def iR(b0 b1 b2 b3:Int)(b4:eP)(b5:pO)(b6:rX)(b7:Int)(b8:qF)(b9 WA:Int)(VZ:cY)(WG VV WC VY:Int)(WB:rH)(VS:mN)(WO:Int)(WN:dK)(WM:Int)(WL:dK):Option (dT×Int×Int×Int×dK):=
 (fS (WM,WL)).bind fun h=>
  bif (Option.isSome h.2.2) then
   some (h.2.2,b2,b3,WM,WL)
  else
   (cU WM WL ([]:mF) h.1 (ar .add .i64 h.2.1 1)).bind fun u=>
    some (u.1,h.1,(ar .add .i64 h.2.1 1),u.2.1,u.2.2)
def gA(b0 b1 b2 b3:Int)(b4:eP)(b5:pO)(b6:rX)(b7:Int)(b8:qF)(b9 WA:Int)(VZ:cY)(WG VV WC VY:Int)(WB:rH)(VS:mN)(WO:Int)(WN:dK)(WM:Int)(WL:dK)(yg:Int)(yf:dK):Option (dT×Int×Int×Int×eP×pO×rX×Int×qF×Int×Int×cY×Int×dK):=
 (iR b0 b0 0 0 ([]:eP) (0,([]:mF),([]:sB),false) ([]:List (Int×eP)) (-1:Int) (0,0,([]:wK)) 0 0 ([]:cY) WG VV WC VY WB VS WM WL yg yf).bind fun h=>
  bif (Option.isSome h.1) then
   some (h.1,b0,h.2.1,h.2.2.1,([]:eP),(0,([]:mF),([]:sB),false),([]:List (Int×eP)),(-1:Int),(0,0,([]:wK)),0,0,([]:cY),h.2.2.2.1,h.2.2.2.2)
  else
   (fZ h.2.2.2).bind fun u=>
    (eD b0 b0 h.2.1 h.2.2.1 u.1 (h.2.1,([]:mF),([]:sB),true) ([]:List (Int×eP)) (-1:Int) (0,0,([]:wK)) 0 0 ([]:cY) WG VV WC VY WB VS h.2.2.2.1 h.2.2.2.2 WM WL).bind fun z=>
     some (u.2,b0,h.2.1,h.2.2.1,u.1,(h.2.1,([]:mF),([]:sB),true),z,(-1:Int),(0,0,([]:wK)),0,0,([]:cY),h.2.2.2.1,h.2.2.2.2)
def kF(a1:Oj)(b0 b1 b2 b3:Int)(b4:eP)(b5:pO)(b6:rX)(b7:Int)(b8:qF)(b9 WA:Int)(VZ:cY)(WG VV WC VY:Int)(WB:rH)(VS:mN)(WO:Int)(WN:dK)(WM:Int)(WL:dK):Option (aR×dT×Int×Int×Int×Int×eP×pO×rX×Int×qF×Int×Int×cY×Int×Int×Int×Int×rH×mN×Int×dK×Int×dK):=
 (iA WO WN b0).bind fun z=>
  xE z.1 (
   jp (fun (_:Unit)=>
    some (aU,z.2.1,b0,b1,b2,b3,b4,b5,b6,b7,b8,b9,WA,VZ,WG,VV,WC,VY,WB,VS,z.2.2.1,z.2.2.2,WM,WL)
    ) fun C=>
   bif (Option.isNone z.2.1) then
    none
   else
    C ()
   ) fun A=>
   jp (fun (h:dT×Int×Int×Int×pO×Int×qF×Int×Int×Int×dK×eP×rX×cY)=>
    some (aU,h.1,b0,h.2.1,h.2.2.1,h.2.2.2.1,h.2.2.2.2.2.2.2.2.2.2.2.1,h.2.2.2.2.1,h.2.2.2.2.2.2.2.2.2.2.2.2.1,h.2.2.2.2.2.1,h.2.2.2.2.2.2.1,h.2.2.2.2.2.2.2.1,h.2.2.2.2.2.2.2.2.1,h.2.2.2.2.2.2.2.2.2.2.2.2.2,WG,VV,WC,VY,WB,VS,h.2.2.2.2.2.2.2.2.2.1,h.2.2.2.2.2.2.2.2.2.2.1,WM,WL)
    ) fun B=>
   bif (Option.isNone z.2.1) then
    (gA b0 b1 b2 b3 b4 b5 b6 b7 b8 b9 WA VZ WG VV WC VY WB VS z.2.2.1 z.2.2.2 WM WL A.1 A.2).bind fun u=>
     B (u.1,u.2.1,u.2.2.1,u.2.2.2.1,u.2.2.2.2.2.1,u.2.2.2.2.2.2.2.1,u.2.2.2.2.2.2.2.2.1,u.2.2.2.2.2.2.2.2.2.1,u.2.2.2.2.2.2.2.2.2.2.1,u.2.2.2.2.2.2.2.2.2.2.2.2.1,u.2.2.2.2.2.2.2.2.2.2.2.2.2,u.2.2.2.2.1,u.2.2.2.2.2.2.1,u.2.2.2.2.2.2.2.2.2.2.2.1)
   else
    B (z.2.1,b1,b2,b3,b5,b7,b8,b9,WA,z.2.2.1,z.2.2.2,b4,b6,VZ)
def gB(b0 b1 b2 b3:Int)(b4:eP)(b5:pO)(b6:rX)(b7:Int)(b8:qF)(b9 WA:Int)(VZ:cY)(WG VV WC VY:Int)(WB:rH)(VS:mN)(WO:Int)(WN:dK)(WM:Int)(WL:dK)(yg:Int)(yf:dK):Option (dT×Int×Int×Int×Int×rH×Int×dK):=
 (gD b0 b1 b2 b3 b4 b5 b6 b7 b8 b9 WA VZ b0 0 0 (-1:Int) (0,0) VS WO WN yg yf).bind fun h=>
  some (h.1,b0,h.2.1,h.2.2.1,(-1:Int),(0,0),h.2.2.2.1,h.2.2.2.2)
def jW(a1:Oj)(b0 b1 b2 b3:Int)(b4:eP)(b5:pO)(b6:rX)(b7:Int)(b8:qF)(b9 WA:Int)(VZ:cY)(WG VV WC VY:Int)(WB:rH)(VS:mN)(WO:Int)(WN:dK)(WM:Int)(WL:dK):Option (aR×dT×Int×Int×Int×Int×eP×pO×rX×Int×qF×Int×Int×cY×Int×Int×Int×Int×rH×mN×Int×dK×Int×dK):=
 (iA WM WL b0).bind fun h=>
  xE h.1 (
   jp (fun (_:Unit)=>
    some (aU,h.2.1,b0,b1,b2,b3,b4,b5,b6,b7,b8,b9,WA,VZ,WG,VV,WC,VY,WB,VS,WO,WN,h.2.2.1,h.2.2.2)
    ) fun C=>
   bif (Option.isNone h.2.1) then
    none
   else
    C ()
   ) fun A=>
   jp (fun (u:dT×Int×Int×Int×Int×rH×Int×dK)=>
    some (aU,u.1,b0,b1,b2,b3,b4,b5,b6,b7,b8,b9,WA,VZ,u.2.1,u.2.2.1,u.2.2.2.1,u.2.2.2.2.1,u.2.2.2.2.2.1,VS,WO,WN,u.2.2.2.2.2.2.1,u.2.2.2.2.2.2.2)
    ) fun B=>
   bif (Option.isNone h.2.1) then
    (gB b0 b1 b2 b3 b4 b5 b6 b7 b8 b9 WA VZ WG VV WC VY WB VS WO WN h.2.2.1 h.2.2.2 A.1 A.2).bind fun z=>
     B (z.1,z.2.1,z.2.2.1,z.2.2.2.1,z.2.2.2.2.1,z.2.2.2.2.2.1,z.2.2.2.2.2.2.1,z.2.2.2.2.2.2.2)
   else
    B (h.2.1,WG,VV,WC,VY,WB,h.2.2.1,h.2.2.2)
def pS(a0:(Bool×cY)):Option (cY):=
 bif a0.1 then
  some ([]:cY)
 else
  (Sw.app ([]:cY) a0.2).bind fun h=>
   some h
def nF(a0:cY):Option cY:=Sw.app [] a0
def eF(a1:Oj)(b0 b1 b2 b3:Int)(b4:eP)(b5:pO)(b6:rX)(b7:Int)(b8:qF)(b9 WA:Int)(VZ:cY)(WG VV WC VY:Int)(WB:rH)(VS:mN)(WO:Int)(WN:dK)(WM:Int)(WL:dK):Option (dT×mN):=
 (cE a1.2.1 b0 b1 b2 b3 b4 b5 b6 b7 b8 b9 WA VZ WG VV WC VY WB VS WO WN WM WL).bind fun u=>
  (bif (!u.2) then
   some true
  else
   (Sw.idx VS u.1).bind fun z=>
    some z.2.1).bind fun A=>
   bif A then
    some ((none:Option Int),VS)
   else
    (Sw.idx VS u.1).bind fun B=>
     (nF B.2.2).bind fun h=>
      (nz (h.length:Int)).bind fun _=>
       (Sw.idx h (ar .rem .i64 (max a1.2.2.1 (IntKind.wrap .i64 (0 - (ar .add .i64 a1.2.2.1 1)))) (h.length:Int))).bind fun C=>
        (Sw.idx a1.2.2.2 0).bind fun D=>
         (Sw.idx h (ar .rem .i64 (max a1.2.2.1 (IntKind.wrap .i64 (0 - (ar .add .i64 a1.2.2.1 1)))) (h.length:Int))).bind fun _=>
          (Sw.idx VS u.1).bind fun E=>
           (Sw.idx VS u.1).bind fun _=>
            some ((none:Option Int),(List.set VS (Int.toNat u.1) (E.1,true,(List.set h (Int.toNat (ar .rem .i64 (max a1.2.2.1 (IntKind.wrap .i64 (0 - (ar .add .i64 a1.2.2.1 1)))) (h.length:Int))) (ar .xor .u8 C (ar .or .u8 D 1))))))
def mT(a1:Oj)(b0 b1 b2 b3:Int)(b4:eP)(b5:pO)(b6:rX)(b7:Int)(b8:qF)(b9 WA:Int)(VZ:cY)(WG VV WC VY:Int)(WB:rH)(VS:mN)(WO:Int)(WN:dK)(WM:Int)(WL:dK):Option (aR×dT×Int×Int×Int×Int×eP×pO×rX×Int×qF×Int×Int×cY×Int×Int×Int×Int×rH×mN×Int×dK×Int×dK):=
 (eF a1 b0 b1 b2 b3 b4 b5 b6 b7 b8 b9 WA VZ WG VV WC VY WB VS WO WN WM WL).bind fun h=>
  some (aU,h.1,b0,b1,b2,b3,b4,b5,b6,b7,b8,b9,WA,VZ,WG,VV,WC,VY,WB,h.2,WO,WN,WM,WL)
def vW(i:Nat)(a1:Oj)(b0 b1 b2 b3:Int)(b4:eP)(b5:pO)(b6:rX)(b7:Int)(b8:qF)(b9 WA:Int)(VZ:cY)(WG VV WC VY:Int)(WB:rH)(VS:mN)(WO:Int)(WN:dK)(WM:Int)(WL:dK):Option (aR×dT×Int×Int×Int×Int×eP×pO×rX×Int×qF×Int×Int×cY×Int×Int×Int×Int×rH×mN×Int×dK×Int×dK):=match i with
 | 0=>nM a1 b0 b1 b2 b3 b4 b5 b6 b7 b8 b9 WA VZ WG VV WC VY WB VS WO WN WM WL
 | 1=>nN a1 b0 b1 b2 b3 b4 b5 b6 b7 b8 b9 WA VZ WG VV WC VY WB VS WO WN WM WL
 | 2=>nO a1 b0 b1 b2 b3 b4 b5 b6 b7 b8 b9 WA VZ WG VV WC VY WB VS WO WN WM WL
 | 3=>nP a1 b0 b1 b2 b3 b4 b5 b6 b7 b8 b9 WA VZ WG VV WC VY WB VS WO WN WM WL
 | 4=>nQ a1 b0 b1 b2 b3 b4 b5 b6 b7 b8 b9 WA VZ WG VV WC VY WB VS WO WN WM WL
 | 5=>nR a1 b0 b1 b2 b3 b4 b5 b6 b7 b8 b9 WA VZ WG VV WC VY WB VS WO WN WM WL
 | 6=>nS a1 b0 b1 b2 b3 b4 b5 b6 b7 b8 b9 WA VZ WG VV WC VY WB VS WO WN WM WL
 | 7=>nT a1 b0 b1 b2 b3 b4 b5 b6 b7 b8 b9 WA VZ WG VV WC VY WB VS WO WN WM WL
 | 8=>kF a1 b0 b1 b2 b3 b4 b5 b6 b7 b8 b9 WA VZ WG VV WC VY WB VS WO WN WM WL
 | 9=>jW a1 b0 b1 b2 b3 b4 b5 b6 b7 b8 b9 WA VZ WG VV WC VY WB VS WO WN WM WL
 | 10=>mT a1 b0 b1 b2 b3 b4 b5 b6 b7 b8 b9 WA VZ WG VV WC VY WB VS WO WN WM WL
 |_=>none
def fX(a1:(Int×aR×Int×Int×Int×eP))(b0 b1 b2 b3:Int)(b4:eP)(b5:pO)(b6:rX)(b7:Int)(b8:qF)(b9 WA:Int)(VZ:cY)(WG VV WC VY:Int)(WB:rH)(VS:mN)(WO:Int)(WN:dK)(WM:Int)(WL:dK):Option ((Int×aR×Int×Int×Int×eP)×dT):=
 (fZ (WM,WL)).bind fun h=>
  some ((a1.1,a1.2.1,b2,WA,VV,h.1),h.2)
def hC(a1:Oj)(b0 b1 b2 b3:Int)(b4:eP)(b5:pO)(b6:rX)(b7:Int)(b8:qF)(b9 WA:Int)(VZ:cY)(WG VV WC VY:Int)(WB:rH)(VS:mN)(WO:Int)(WN:dK)(WM:Int)(WL:dK):Option ((Int×aR×Int×Int×Int×eP)×dT×Int×Int×Int×Int×eP×pO×rX×Int×qF×Int×Int×cY×Int×Int×Int×Int×rH×mN×Int×dK×Int×dK):=
 (bif (cm .lss a1.1 0) then
  some true
 else
  some (cm .geq a1.1 11)).bind fun C=>
  jp (fun (u:Int×Int×Int×Int×pO×Int×qF×Int×Int×Int×Int×Int×Int×rH×Int×aR×Int×dK×eP×rX×cY×Int×dK×mN)=>
   (fX (u.2.2.2.2.2.2.2.2.2.2.2.2.2.2.1,u.2.2.2.2.2.2.2.2.2.2.2.2.2.2.2.1,0,0,0,([]:eP)) u.1 u.2.1 u.2.2.1 u.2.2.2.1 u.2.2.2.2.2.2.2.2.2.2.2.2.2.2.2.2.2.2.1 u.2.2.2.2.1 u.2.2.2.2.2.2.2.2.2.2.2.2.2.2.2.2.2.2.2.1 u.2.2.2.2.2.1 u.2.2.2.2.2.2.1 u.2.2.2.2.2.2.2.1 u.2.2.2.2.2.2.2.2.1 u.2.2.2.2.2.2.2.2.2.2.2.2.2.2.2.2.2.2.2.2.1 u.2.2.2.2.2.2.2.2.2.1 u.2.2.2.2.2.2.2.2.2.2.1 u.2.2.2.2.2.2.2.2.2.2.2.1 u.2.2.2.2.2.2.2.2.2.2.2.2.1 u.2.2.2.2.2.2.2.2.2.2.2.2.2.1 u.2.2.2.2.2.2.2.2.2.2.2.2.2.2.2.2.2.2.2.2.2.2.2 u.2.2.2.2.2.2.2.2.2.2.2.2.2.2.2.2.1 u.2.2.2.2.2.2.2.2.2.2.2.2.2.2.2.2.2.1 u.2.2.2.2.2.2.2.2.2.2.2.2.2.2.2.2.2.2.2.2.2.1 u.2.2.2.2.2.2.2.2.2.2.2.2.2.2.2.2.2.2.2.2.2.2.1).bind fun A=>
    some (A.1,A.2,u.1,u.2.1,u.2.2.1,u.2.2.2.1,u.2.2.2.2.2.2.2.2.2.2.2.2.2.2.2.2.2.2.1,u.2.2.2.2.1,u.2.2.2.2.2.2.2.2.2.2.2.2.2.2.2.2.2.2.2.1,u.2.2.2.2.2.1,u.2.2.2.2.2.2.1,u.2.2.2.2.2.2.2.1,u.2.2.2.2.2.2.2.2.1,u.2.2.2.2.2.2.2.2.2.2.2.2.2.2.2.2.2.2.2.2.1,u.2.2.2.2.2.2.2.2.2.1,u.2.2.2.2.2.2.2.2.2.2.1,u.2.2.2.2.2.2.2.2.2.2.2.1,u.2.2.2.2.2.2.2.2.2.2.2.2.1,u.2.2.2.2.2.2.2.2.2.2.2.2.2.1,u.2.2.2.2.2.2.2.2.2.2.2.2.2.2.2.2.2.2.2.2.2.2.2,u.2.2.2.2.2.2.2.2.2.2.2.2.2.2.2.2.1,u.2.2.2.2.2.2.2.2.2.2.2.2.2.2.2.2.2.1,u.2.2.2.2.2.2.2.2.2.2.2.2.2.2.2.2.2.2.2.2.2.1,u.2.2.2.2.2.2.2.2.2.2.2.2.2.2.2.2.2.2.2.2.2.2.1)
   ) fun B=>
  bif C then
   B (b0,b1,b2,b3,b5,b7,b8,b9,WA,WG,VV,WC,VY,WB,3,aU,WO,WN,b4,b6,VZ,WM,WL,VS)
  else
   (tY a1.1).bind fun D=>
    (vW D a1 b0 b1 b2 b3 b4 b5 b6 b7 b8 b9 WA VZ WG VV WC VY WB VS WO WN WM WL).bind fun h=>
     (bif (Option.isSome h.2.1) then
      some ((!(Option.isSome h.2.1)),(Option.getD h.2.1 0))
     else
      some (false,0)).bind fun z=>
      bif z.1 then
       some ((z.2,aU,0,0,0,([]:eP)),h.2.1,h.2.2.1,h.2.2.2.1,h.2.2.2.2.1,h.2.2.2.2.2.1,h.2.2.2.2.2.2.1,h.2.2.2.2.2.2.2.1,h.2.2.2.2.2.2.2.2.1,h.2.2.2.2.2.2.2.2.2.1,h.2.2.2.2.2.2.2.2.2.2.1,h.2.2.2.2.2.2.2.2.2.2.2.1,h.2.2.2.2.2.2.2.2.2.2.2.2.1,h.2.2.2.2.2.2.2.2.2.2.2.2.2.1,h.2.2.2.2.2.2.2.2.2.2.2.2.2.2.1,h.2.2.2.2.2.2.2.2.2.2.2.2.2.2.2.1,h.2.2.2.2.2.2.2.2.2.2.2.2.2.2.2.2.1,h.2.2.2.2.2.2.2.2.2.2.2.2.2.2.2.2.2.1,h.2.2.2.2.2.2.2.2.2.2.2.2.2.2.2.2.2.2.1,h.2.2.2.2.2.2.2.2.2.2.2.2.2.2.2.2.2.2.2.1,h.2.2.2.2.2.2.2.2.2.2.2.2.2.2.2.2.2.2.2.2.1,h.2.2.2.2.2.2.2.2.2.2.2.2.2.2.2.2.2.2.2.2.2.1,h.2.2.2.2.2.2.2.2.2.2.2.2.2.2.2.2.2.2.2.2.2.2.1,h.2.2.2.2.2.2.2.2.2.2.2.2.2.2.2.2.2.2.2.2.2.2.2)
      else
       B (h.2.2.1,h.2.2.2.1,h.2.2.2.2.1,h.2.2.2.2.2.1,h.2.2.2.2.2.2.2.1,h.2.2.2.2.2.2.2.2.2.1,h.2.2.2.2.2.2.2.2.2.2.1,h.2.2.2.2.2.2.2.2.2.2.2.1,h.2.2.2.2.2.2.2.2.2.2.2.2.1,h.2.2.2.2.2.2.2.2.2.2.2.2.2.2.1,h.2.2.2.2.2.2.2.2.2.2.2.2.2.2.2.1,h.2.2.2.2.2.2.2.2.2.2.2.2.2.2.2.2.1,h.2.2.2.2.2.2.2.2.2.2.2.2.2.2.2.2.2.1,h.2.2.2.2.2.2.2.2.2.2.2.2.2.2.2.2.2.2.1,z.2,h.1,h.2.2.2.2.2.2.2.2.2.2.2.2.2.2.2.2.2.2.2.2.1,h.2.2.2.2.2.2.2.2.2.2.2.2.2.2.2.2.2.2.2.2.2.1,h.2.2.2.2.2.2.1,h.2.2.2.2.2.2.2.2.1,h.2.2.2.2.2.2.2.2.2.2.2.2.2.1,h.2.2.2.2.2.2.2.2.2.2.2.2.2.2.2.2.2.2.2.2.2.2.1,h.2.2.2.2.2.2.2.2.2.2.2.2.2.2.2.2.2.2.2.2.2.2.2,h.2.2.2.2.2.2.2.2.2.2.2.2.2.2.2.2.2.2.2.1)
def jH(a0:Int)(a1:mO):Option ((Option (Int×Int×Int×Int×eP×pO×rX×Int×qF×Int×Int×cY×Int×Int×Int×Int×rH×mN×Int×dK×Int×dK))×Is×dT):=
 (bif (cm .lss a0 1) then
  some true
 else
  some (cm .gtr a0 32)).bind fun C=>
  bif C then
   some ((none:_),([]:Is),(some 1))
  else
   bif (cm .gtr (a1.length:Int) 300) then
    some ((none:_),([]:Is),(some 2))
   else
    (iG a0).bind fun B=>
     xE B.1 (
      bif (Option.isSome B.2) then
       some ((none:_),([]:Is),B.2)
      else
       lp (β:=Unit) (fun (_:Unit)=>
        bif (cm .lss 0 (a1.length:Int)) then
         (Sw.idx a1 0).bind fun _=>
          none
        else
         some (.done (.VP ()))
        ) () fun (_:Unit)=>
       some ((none:_),([]:Is),(none:Option Int))
      ) fun A=>
      bif (Option.isSome B.2) then
       some ((none:_),([]:Is),B.2)
      else
       lp (β:=Int×Int×Int×Int×pO×Int×qF×Int×Int×Int×Int×Int×Int×rH×Is×Int×dK×eP×rX×cY×Int×dK×mN) (fun (h:Int×Int×Int×Int×Int×pO×Int×qF×Int×Int×Int×Int×Int×Int×rH×Is×Int×dK×eP×rX×cY×Int×dK×mN)=>
        bif (cm .lss h.1 (a1.length:Int)) then
         (Sw.idx a1 h.1).bind fun D=>
          (hC D h.2.1 h.2.2.1 h.2.2.2.1 h.2.2.2.2.1 h.2.2.2.2.2.2.2.2.2.2.2.2.2.2.2.2.2.2.1 h.2.2.2.2.2.1 h.2.2.2.2.2.2.2.2.2.2.2.2.2.2.2.2.2.2.2.1 h.2.2.2.2.2.2.1 h.2.2.2.2.2.2.2.1 h.2.2.2.2.2.2.2.2.1 h.2.2.2.2.2.2.2.2.2.1 h.2.2.2.2.2.2.2.2.2.2.2.2.2.2.2.2.2.2.2.2.1 h.2.2.2.2.2.2.2.2.2.2.1 h.2.2.2.2.2.2.2.2.2.2.2.1 h.2.2.2.2.2.2.2.2.2.2.2.2.1 h.2.2.2.2.2.2.2.2.2.2.2.2.2.1 h.2.2.2.2.2.2.2.2.2.2.2.2.2.2.1 h.2.2.2.2.2.2.2.2.2.2.2.2.2.2.2.2.2.2.2.2.2.2.2 h.2.2.2.2.2.2.2.2.2.2.2.2.2.2.2.2.1 h.2.2.2.2.2.2.2.2.2.2.2.2.2.2.2.2.2.1 h.2.2.2.2.2.2.2.2.2.2.2.2.2.2.2.2.2.2.2.2.2.1 h.2.2.2.2.2.2.2.2.2.2.2.2.2.2.2.2.2.2.2.2.2.2.1).bind fun u=>
           bif (Option.isSome u.2.1) then
            some (.done (.ret ((none:_),([]:Is),u.2.1)))
           else
            (Sw.app h.2.2.2.2.2.2.2.2.2.2.2.2.2.2.2.1 ([u.1]:Is)).bind fun E=>
             some (.next ((ar .add .i64 h.1 1),u.2.2.1,u.2.2.2.1,u.2.2.2.2.1,u.2.2.2.2.2.1,u.2.2.2.2.2.2.2.1,u.2.2.2.2.2.2.2.2.2.1,u.2.2.2.2.2.2.2.2.2.2.1,u.2.2.2.2.2.2.2.2.2.2.2.1,u.2.2.2.2.2.2.2.2.2.2.2.2.1,u.2.2.2.2.2.2.2.2.2.2.2.2.2.2.1,u.2.2.2.2.2.2.2.2.2.2.2.2.2.2.2.1,u.2.2.2.2.2.2.2.2.2.2.2.2.2.2.2.2.1,u.2.2.2.2.2.2.2.2.2.2.2.2.2.2.2.2.2.1,u.2.2.2.2.2.2.2.2.2.2.2.2.2.2.2.2.2.2.1,E,u.2.2.2.2.2.2.2.2.2.2.2.2.2.2.2.2.2.2.2.2.1,u.2.2.2.2.2.2.2.2.2.2.2.2.2.2.2.2.2.2.2.2.2.1,u.2.2.2.2.2.2.1,u.2.2.2.2.2.2.2.2.1,u.2.2.2.2.2.2.2.2.2.2.2.2.2.1,u.2.2.2.2.2.2.2.2.2.2.2.2.2.2.2.2.2.2.2.2.2.2.1,u.2.2.2.2.2.2.2.2.2.2.2.2.2.2.2.2.2.2.2.2.2.2.2,u.2.2.2.2.2.2.2.2.2.2.2.2.2.2.2.2.2.2.2.1))
        else
         some (.done (.VP (h.2.1,h.2.2.1,h.2.2.2.1,h.2.2.2.2.1,h.2.2.2.2.2.1,h.2.2.2.2.2.2.1,h.2.2.2.2.2.2.2.1,h.2.2.2.2.2.2.2.2.1,h.2.2.2.2.2.2.2.2.2.1,h.2.2.2.2.2.2.2.2.2.2.1,h.2.2.2.2.2.2.2.2.2.2.2.1,h.2.2.2.2.2.2.2.2.2.2.2.2.1,h.2.2.2.2.2.2.2.2.2.2.2.2.2.1,h.2.2.2.2.2.2.2.2.2.2.2.2.2.2.1,h.2.2.2.2.2.2.2.2.2.2.2.2.2.2.2.1,h.2.2.2.2.2.2.2.2.2.2.2.2.2.2.2.2.1,h.2.2.2.2.2.2.2.2.2.2.2.2.2.2.2.2.2.1,h.2.2.2.2.2.2.2.2.2.2.2.2.2.2.2.2.2.2.1,h.2.2.2.2.2.2.2.2.2.2.2.2.2.2.2.2.2.2.2.1,h.2.2.2.2.2.2.2.2.2.2.2.2.2.2.2.2.2.2.2.2.1,h.2.2.2.2.2.2.2.2.2.2.2.2.2.2.2.2.2.2.2.2.2.1,h.2.2.2.2.2.2.2.2.2.2.2.2.2.2.2.2.2.2.2.2.2.2.1,h.2.2.2.2.2.2.2.2.2.2.2.2.2.2.2.2.2.2.2.2.2.2.2)))
        ) (0,A.1,A.2.1,A.2.2.1,A.2.2.2.1,A.2.2.2.2.2.1,A.2.2.2.2.2.2.2.1,A.2.2.2.2.2.2.2.2.1,A.2.2.2.2.2.2.2.2.2.1,A.2.2.2.2.2.2.2.2.2.2.1,A.2.2.2.2.2.2.2.2.2.2.2.2.1,A.2.2.2.2.2.2.2.2.2.2.2.2.2.1,A.2.2.2.2.2.2.2.2.2.2.2.2.2.2.1,A.2.2.2.2.2.2.2.2.2.2.2.2.2.2.2.1,A.2.2.2.2.2.2.2.2.2.2.2.2.2.2.2.2.1,([]:Is),A.2.2.2.2.2.2.2.2.2.2.2.2.2.2.2.2.2.2.1,A.2.2.2.2.2.2.2.2.2.2.2.2.2.2.2.2.2.2.2.1,A.2.2.2.2.1,A.2.2.2.2.2.2.1,A.2.2.2.2.2.2.2.2.2.2.2.1,A.2.2.2.2.2.2.2.2.2.2.2.2.2.2.2.2.2.2.2.2.1,A.2.2.2.2.2.2.2.2.2.2.2.2.2.2.2.2.2.2.2.2.2,A.2.2.2.2.2.2.2.2.2.2.2.2.2.2.2.2.2.1) fun (z:Int×Int×Int×Int×pO×Int×qF×Int×Int×Int×Int×Int×Int×rH×Is×Int×dK×eP×rX×cY×Int×dK×mN)=>
       some ((some (z.1,z.2.1,z.2.2.1,z.2.2.2.1,z.2.2.2.2.2.2.2.2.2.2.2.2.2.2.2.2.2.1,z.2.2.2.2.1,z.2.2.2.2.2.2.2.2.2.2.2.2.2.2.2.2.2.2.1,z.2.2.2.2.2.1,z.2.2.2.2.2.2.1,z.2.2.2.2.2.2.2.1,z.2.2.2.2.2.2.2.2.1,z.2.2.2.2.2.2.2.2.2.2.2.2.2.2.2.2.2.2.2.1,z.2.2.2.2.2.2.2.2.2.1,z.2.2.2.2.2.2.2.2.2.2.1,z.2.2.2.2.2.2.2.2.2.2.2.1,z.2.2.2.2.2.2.2.2.2.2.2.2.1,z.2.2.2.2.2.2.2.2.2.2.2.2.2.1,z.2.2.2.2.2.2.2.2.2.2.2.2.2.2.2.2.2.2.2.2.2.2,z.2.2.2.2.2.2.2.2.2.2.2.2.2.2.2.1,z.2.2.2.2.2.2.2.2.2.2.2.2.2.2.2.2.1,z.2.2.2.2.2.2.2.2.2.2.2.2.2.2.2.2.2.2.2.2.1,z.2.2.2.2.2.2.2.2.2.2.2.2.2.2.2.2.2.2.2.2.2.1)),z.2.2.2.2.2.2.2.2.2.2.2.2.2.2.1,(none:Option Int))
def mG(a0:Int)(a1:mO):Option (Is×dT):=
 (jH a0 a1).bind fun h=>
  xE h.1 (
   some (h.2.1,h.2.2)
   ) fun _=>
   some (h.2.1,h.2.2)
def mH(a0:eP):Option (eP):=
 (Sw.app ([]:eP) a0).bind fun h=>
  some h
def qK(a0:(eP×(List eP))):Option (Int):=
 some (ar .sub .i64 (a0.2.length:Int) 1)
def pI(VF:eP)(VL:(List eP))(a1:Oj):Option (Int×aR×eP×(List eP)):=
 (bif (cm .lss a1.1 0) then
  some true
 else
  some (cm .geq a1.1 11)).bind fun h=>
  bif h then
   some (3,aU,VF,VL)
  else
   (bif (cm .eql a1.1 0) then
    bif (cm .lss a1.2.1 0) then
     some true
    else
     some (cm .geq a1.2.1 (VF.length:Int))
   else
    bif (cm .eql a1.1 1) then
     bif (cm .lss a1.2.1 0) then
      some true
     else
      some (cm .geq a1.2.1 (VF.length:Int))
    else
     bif (cm .eql a1.1 2) then
      bif (cm .lss a1.2.1 0) then
       some true
      else
       some (cm .geq a1.2.1 (VF.length:Int))
     else
      some false).bind fun u=>
    bif u then
     some (1,aU,VF,VL)
    else
     bif (cm .eql a1.1 0) then
      (Sw.idx VF a1.2.1).bind fun _=>
       some (0,aU,(List.set VF (Int.toNat a1.2.1) a1.2.2.2),VL)
     else
      bif (cm .eql a1.1 1) then
       (Sw.idx VF a1.2.1).bind fun _=>
        some (0,aU,(List.set VF (Int.toNat a1.2.1) aU),VL)
      else
       bif (cm .eql a1.1 2) then
        (Sw.idx VF a1.2.1).bind fun z=>
         some (0,z,VF,VL)
       else
        bif (cm .eql a1.1 3) then
         (mH VF).bind fun A=>
          (Sw.app VL ([A]:(List eP))).bind fun B=>
           some (0,aU,VF,B)
        else
         bif (cm .eql a1.1 8) then
          (qK (VF,VL)).bind fun C=>
           (Sw.idx VL C).bind fun D=>
            (mH D).bind fun E=>
             some (0,aU,E,VL)
         else
          some (0,aU,VF,VL)
def vN(a0:mO):Option (mO):=
 lp (β:=mO) (fun (h:Int×mO)=>
  bif (cm .lss h.1 (a0.length:Int)) then
   (Sw.idx a0 h.1).bind fun u=>
    (bif (cm .neq u.1 4) then
     bif (cm .neq u.1 5) then
      bif (cm .neq u.1 6) then
       bif (cm .neq u.1 7) then
        bif (cm .neq u.1 10) then
         some (cm .neq u.1 9)
        else
         some false
       else
        some false
      else
       some false
     else
      some false
    else
     some false).bind fun z=>
     bif z then
      (Sw.idx a0 h.1).bind fun A=>
       (Sw.app h.2 ([A]:mO)).bind fun B=>
        some (.next ((ar .add .i64 h.1 1),B))
     else
      some (.next ((ar .add .i64 h.1 1),h.2))
  else
   some (.done (.VP h.2))
  ) (0,([]:mO)) fun (C:mO)=>
 some C
def pJ(a0:cY)(a1 a2 a3:Int):Option (Bool):=
 bif (cm .gtr (a0.length:Int) 128) then
  some true
 else
  (lI a1 32).bind fun C=>
   (lI a2 1000).bind fun D=>
    (lI a3 150).bind fun E=>
     (lB a0 D E (ar .add .i64 1 C)).bind fun z=>
      (vN z).bind fun A=>
       (mG (ar .add .i64 1 C) z).bind fun u=>
        (mG (ar .add .i64 1 C) A).bind fun B=>
         (bif (Option.isSome u.2) then
          some true
         else
          bif (Option.isSome B.2) then
           some true
          else
           bif (cm .neq (u.1.length:Int) (z.length:Int)) then
            some true
           else
            some (cm .neq (B.1.length:Int) (A.length:Int))).bind fun F=>
          bif F then
           some false
          else
           lp (β:=Int) (fun (h:Int×Int)=>
            bif (cm .lss h.2 (z.length:Int)) then
             (bif (cm .lss h.1 (A.length:Int)) then
              (Sw.idx z h.2).bind fun G=>
               (Sw.idx A h.1).bind fun H=>
                some (decide (G=H))
             else
              some false).bind fun I=>
              bif I then
               ((Sw.idx u.1 h.2).bind fun K=>
                (Sw.idx B.1 h.1).bind fun L=>
                 bif (cm .neq K.1 L.1) then
                  some true
                 else
                  (Sw.idx u.1 h.2).bind fun M=>
                   (Sw.idx B.1 h.1).bind fun N=>
                    bif (!decide (M.2.1=N.2.1)) then
                     some true
                    else
                     (Sw.idx u.1 h.2).bind fun O=>
                      (Sw.idx B.1 h.1).bind fun P=>
                       some (cm .neq O.2.2.1 P.2.2.1)).bind fun Q=>
                bif Q then
                 some (.done (.ret false))
                else
                 some (.next ((ar .add .i64 h.1 1),(ar .add .i64 h.2 1)))
              else
               ((Sw.idx u.1 h.2).bind fun R=>
                bif (cm .neq R.1 0) then
                 some true
                else
                 (Sw.idx u.1 h.2).bind fun S=>
                  some (!decide (S.2.1=aU))).bind fun T=>
                bif T then
                 some (.done (.ret false))
                else
                 some (.next (h.1,(ar .add .i64 h.2 1)))
            else
             some (.done (.VP h.1))
            ) (0,0) fun (U:Int)=>
           some (cm .eql U (A.length:Int))
end Go.Mo
namespace Go.Mo
open Go Go.Sw
def Cw(a0:(List aR))(a1:aR):Option (Int):=
 lp (β:=Unit) (fun (h:Int)=>
  bif (cm .lss h (a0.length:Int)) then
   (Sw.idx a0 h).bind fun u=>
    bif (decide (u=a1)) then
     some (.done (.ret h))
    else
     some (.next (ar .add .i64 h (1:Int)))
  else
   some (.done (.VP ()))
  ) (0:Int) fun (_:Unit)=>
 some (-1:Int)
end Go.Mo
namespace Go.Pl
open Go Go.Sw
def sL{A B D:Type}(g:Nat->A->B->Step B D)(fin:B->D):Nat->B->List A->D
 |_,acc,[]=>fin acc
 |i,acc,x::xs=>match g i x acc with
  | .next h=>sL g fin (i+1) h xs
  | .done d=>d
def Ie{α B D:Type}(st:Nat->B->α)(i:Nat):Step B D->Step α D
 | .next a=> .next (st i a)
 | .done d=> .done d
def out{β γ:Type}(k:β->Option γ):Ex β γ->Option γ
 | .VP y=>k y
 | .ret z=>some z
theorem Pw{α A B D:Type}{step:α->Option (Step α D)}{l:List A}(st:Nat->B->α)(g:Nat->A->B->Step B D)(fin:B->D)
  (hs:∀pre x rest acc,l=pre++x::rest->step (st pre.length acc)=some (Ie st (pre.length+1) (g pre.length x acc)))
  (he:∀acc,step (st l.length acc)=some (.done (fin acc))):
  ∀(rest pre:List A) (acc:B) (f:Nat),l=pre++rest->rest.length<f->loop step f (st pre.length acc)=some (sL g fin pre.length acc rest)
 | [],pre,acc,f,h,u=>by
  obtain⟨f,rfl⟩:∃f',f=f'+1:=⟨f - 1,by simp at u;omega⟩;have:=he acc;rw[h,V2] at this;simp[loop,this,sL]
 |x::rest,pre,acc,f,h,u=>by
  obtain⟨f,rfl⟩:∃f',f=f'+1:=⟨f - 1,by simp at u;omega⟩;have z:=hs pre x rest acc h;simp only[loop,z,sL];cases hg:g pre.length x acc with
  |done d=>rfl
  |next E=>
   have C:=Pw st g fin hs he rest (pre++[x]) E f (by rw[h];simp) (by simp at u;omega);simpa[Ie] using C
theorem Be{α A B β γ:Type}{step:α->Option (Step α (Ex β γ))}{l:List A}{k:β->Option γ}(st:Nat->B->α)(YB:B)(g:Nat->A->B->Step B (Ex β γ))(fin:B->Ex β γ)(hf:l.length<fI)
  (hs:∀pre x rest acc,l=pre++x::rest->step (st pre.length acc)=some (Ie st (pre.length+1) (g pre.length x acc)))
  (he:∀acc,step (st l.length acc)=some (.done (fin acc))):
  lp step (st 0 YB) k=out k (sL g fin 0 YB l):=by
 have h:=Pw st g fin hs he l [] YB fI rfl hf;unfold lp;simp only[V1] at h;rw[h];cases sL g fin 0 YB l<;>rfl
theorem mU{α:Type}(pre:List α)(x:α)(rest:List α):Sw.idx (pre++x::rest) (pre.length:Int)=some x:=by
 unfold Sw.idx;simp
theorem GJ{n m:Nat}(h:n<m)(hm:m<=4611686018427387904):ar .add .i64 (n:Int) 1=((n+1:Nat):Int):=by
 unfold ar;simp only[IntKind.wrap,IntKind.signed,IntKind.bits];simp;omega
theorem pK{α:Type}(pre:List α)(x:α)(rest:List α):cm .lss (pre.length:Int) ((pre++x::rest).length:Int)=true:=by
 unfold cm;simp;omega
theorem dQ{n:Nat}:cm .lss (n:Int) (n:Int)=false:=by unfold cm;simp
end Go.Pl
namespace Go.Pl
open Go Go.Sw
theorem Uf{α β γ:Type}{step:α->Option (Step α (Ex β γ))}{k:β->Option γ}(st:Nat->α)(n:Nat)(y:β)(hf:n<fI)(hs:∀i,i<n->step (st i)=some (.next (st (i+1))))(he:step (st n)=some (.done (.VP y))):lp step (st 0) k=k y:=by
 have h:∀m i,i+m=n->∀f,m<f->loop step f (st i)=some (.VP y):=by
  intro m
  induction m with
  |zero=>
   intro i u f hf;obtain⟨f,rfl⟩:∃f',f=f'+1:=⟨f - 1,by omega⟩;simp only[aDf] at u;subst u;simp[loop,he]
  |succ m z=>
   intro i u f hf;obtain⟨f,rfl⟩:∃f',f=f'+1:=⟨f - 1,by omega⟩;simp only[loop,hs i (by omega)];exact z (i+1) (by omega) f (by omega)
 unfold lp;rw[h n 0 (by omega) fI hf]
theorem wrap_i64{n:Int}(h: -9223372036854775808<=n/\n<=9223372036854775807):IntKind.wrap .i64 n=n:=Ar (k:= .i64) (by unfold Co;simp[IntKind.min,IntKind.max,IntKind.signed,IntKind.bits];omega)
theorem Mp{n:Int}(h:0<=n/\n<=4294967295):IntKind.wrap .u32 n=n:=Ar (k:= .u32) (by unfold Co;simp[IntKind.min,IntKind.max,IntKind.signed,IntKind.bits];omega)
theorem rQ(w n:Nat):BitVec.ofInt w (n:Int)=BitVec.ofNat w n:=by
 apply BitVec.eq_of_toNat_eq;simp
theorem NS{a b:Nat}(ha:a<4294967296)(hb:b<4294967296):ar .xor .u32 (a:Int) (b:Int)=((a ^^^ b:Nat):Int):=by
 have h:a ^^^ b<2 ^ 32:=aCe (by simpa using ha) (by simpa using hb);show IntKind.wrap .u32 ((BitVec.ofInt 32 (a:Int) ^^^ BitVec.ofInt 32 (b:Int)).toNat:Int)=_;simp only[rQ,aEp,yu];rw[L7 (by simpa using ha),L7 (by simpa using hb)];exact Mp (by simp at h;omega)
theorem RC{a:Nat}(ha:a<4294967296):ar .and .u32 (a:Int) 1=((a % 2:Nat):Int):=by
 show IntKind.wrap .u32 ((BitVec.ofInt 32 (a:Int) &&& BitVec.ofInt 32 ((1:Nat):Int)).toNat:Int)=_;simp only[rQ,aEq,yu];rw[L7 (a:=a) (by simpa using ha),L7 (a:=1) (by decide),Nat.and_one_is_mod];exact Mp (by omega)
theorem RD{a:Nat}(ha:a<2):ar .mul .u32 3988292384 (a:Int)=((if a=1 then 3988292384 else 0:Nat):Int):=by
 have:a=0\/a=1:=by omega
 rcases this with rfl | rfl
 ·rfl
 ·decide
theorem TB{a:Nat}:sh .shr .u32 (a:Int) 1=((a / 2:Nat):Int):=by
 show Int.fdiv _ _=_;have:(2:Int) ^ min (1:Int).toNat (IntKind.bits .u32)=2:=by decide
 rw[this,ug _ (by omega)];omega
theorem RE{a:Nat}(ha:a<4294967296):BN .u32 (a:Int)=((4294967295 - a:Nat):Int):=by
 unfold BN;show IntKind.wrap .u32 ((BitVec.allOnes 32 ^^^ BitVec.ofInt 32 (a:Int)).toNat:Int)=_;simp only[rQ,BitVec.allOnes_xor,BitVec.toNat_not,yu];rw[L7 (by simpa using ha)];exact Mp (by omega)
theorem GL(a b:Nat):Int.tdiv (a:Int) (b:Int)=((a / b:Nat):Int):=rfl
theorem GM{a b:Nat}(ha:a<=9223372036854775807):ar .quo .i64 (a:Int) (b:Int)=((a / b:Nat):Int):=by
 show IntKind.wrap .i64 _=_;rw[GL];have:=Nat.div_le_self a b;generalize a / b=q at*;exact wrap_i64 (by omega)
theorem AD{a b:Nat}:ar .rem .i64 (a:Int) (b:Int)=((a % b:Nat):Int):=rfl
theorem RF{a b:Nat}(h:a+b<=9223372036854775807):ar .add .i64 (a:Int) (b:Int)=((a+b:Nat):Int):=by
 show IntKind.wrap .i64 _=_;rw[<-Int.natCast_add];exact wrap_i64 (by omega)
theorem Ha{a b:Nat}(h:a*b<=9223372036854775807):ar .mul .i64 (a:Int) (b:Int)=((a*b:Nat):Int):=by
 show IntKind.wrap .i64 _=_;rw[<-Int.natCast_mul];exact wrap_i64 (by omega)
theorem GN{n:Int}(h:n≠0):nz n=some ():=by unfold nz;rw[VN h]
theorem OU{a b:Nat}:cm .lss (a:Int) (b:Int)=decide (a<b):=by unfold cm;simp
theorem LD(a b i:Nat):(a ^^^ b) / 2 ^ i % 2=(a / 2 ^ i+b / 2 ^ i) % 2:=by
 have h:=Nat.testBit_xor a b i;simp only[Nat.testBit_eq_decide_div_mod_eq] at h;have u:=aDp (a / 2 ^ i);have z:=aDp (b / 2 ^ i);have A:=aDp ((a ^^^ b) / 2 ^ i);rw[Nat.add_mod];rcases u with u | u<;>rcases z with z | z<;>rcases A with A | A<;>simp[u,z,A] at h ⊢
end Go.Pl
namespace Go.Pl
open Go Go.Sw
def Bytes(l:List Int):Prop:=∀x∈l,0<=x/\x<=255
def nat(l:List Int):List Nat:=l.map Int.toNat
theorem A1{α A B β γ:Type}{step:α->Option (Step α (Ex β γ))}{l:List A}{k:β->Option γ}(st:Nat->B->α)(I:Nat->B->Prop)(YB:B)(g:Nat->A->B->B)(fin:B->β)(hf:l.length<fI)(h0:I 0 YB)
  (hs:∀pre x rest acc,l=pre++x::rest->I pre.length acc->step (st pre.length acc)=some (.next (st (pre.length+1) (g pre.length x acc)))/\I (pre.length+1) (g pre.length x acc))
  (he:∀acc,I l.length acc->step (st l.length acc)=some (.done (.VP (fin acc)))):
  lp step (st 0 YB) k=k (fin ((l.zipIdx).foldl (fun acc x=>g x.2 x.1 acc) YB)):=by
 have C:∀(rest pre:List A) (acc:B) (f:Nat),l=pre++rest->I pre.length acc->rest.length<f->loop step f (st pre.length acc)=some (.VP (fin ((rest.zipIdx pre.length).foldl (fun acc x=>g x.2 x.1 acc) acc))):=by
  intro rest
  induction rest with
  |nil=>
   intro pre acc f u z hf;obtain⟨f,rfl⟩:∃f',f=f'+1:=⟨f - 1,by simp at hf;omega⟩;have:=he acc (by rw[u,V2];exact z);rw[u,V2] at this;simp[loop,this]
  |cons x rest F=>
   intro pre acc f u z hf;obtain⟨f,rfl⟩:∃f',f=f'+1:=⟨f - 1,by simp at hf;omega⟩;obtain⟨D,E⟩:=hs pre x rest acc u z;simp only[loop,D];have:=F (pre++[x]) (g pre.length x acc) f (by rw[u];simp) (by simpa using E) (by simp at hf;omega);simpa using this
 have h:=C l [] YB fI rfl h0 hf;unfold lp;simp only[V1] at h;rw[h]
theorem UQ{α:Type}(xs ys:List α)(h:xs.length+ys.length<=4294967296):Sw.app xs ys=some (xs++ys):=by unfold Sw.app;rw[VX h]
theorem YR{A:Type}(w:A->List Int):∀(l:List A) (i:Nat) (acc:List Int),(l.zipIdx i).foldl (fun acc x=>acc++w x.1) acc=acc++l.flatMap w
 | [],_,acc=>by simp
 |x::l,i,acc=>by simp[YR w l]
end Go.Pl
namespace Go.Pl
open Go Go.Sw
def Wf{α:Type}(e:Wr α)(x:α):Prop:=∃S w cs,e.ok x S w cs
theorem Wf.int{k:IntKind}{n:Int}(h:Wf (Wr.int k) n):Co k n:=by obtain⟨_,_,_,h⟩:=h;exact h.2
theorem AE{α:Type}{e:Wr α}{S w}:∀{xs:List α} {cs},e.YG xs S w cs->∀x∈xs,Wf e x
 | [],_,_,x,h=>by simp at h
 |y::ys,_,⟨c,d,_,u,z⟩,x,h=>by
  rcases j4.1 h with rfl | h
  ·exact⟨_,_,_,u⟩
  ·exact AE z x h
theorem Wf.sl{α:Type}{e:Wr α}{xs:List α}(h:Wf (Wr.sl e) xs):xs.length<=140737488355328/\∀x∈xs,Wf e x:=by
 obtain⟨_,_,_,a,C,_,z,A⟩:=h;refine⟨z.2,?_⟩;rcases A with rfl |⟨b,D,E,_,_,_,_,B⟩
 ·intro x u;simp at u
 ·exact AE B
theorem Ee{α:Type}{e:Wr α}{x:α}{S w v}(h:e.val x S w v):Wf e x:=by obtain⟨u,h,_⟩:=h;exact⟨_,_,_,h⟩
end Go.Pl
namespace Go.Pl
open Go Go.Sw
theorem cl(m n:Int):cm .lss m n=decide (m<n):=rfl
theorem cg(m n:Int):cm .gtr m n=decide (m>n):=rfl
theorem ye(m n:Int):cm .leq m n=decide (m<=n):=rfl
theorem G7(m n:Int):cm .geq m n=decide (m>=n):=rfl
theorem ce(m n:Int):cm .eql m n=decide (m=n):=by show (m==n)=_;by_cases h:m=n<;>simp[h]
theorem cn(m n:Int):cm .neq m n=decide (m≠n):=by show (m != n)=_;by_cases h:m=n<;>simp[h]
theorem YZ{m n:Int}(h: -9223372036854775808<=m+n/\m+n<=9223372036854775807):ar .add .i64 m n=m+n:=wrap_i64 h
theorem M9{m n:Int}(h: -9223372036854775808<=m - n/\m - n<=9223372036854775807):ar .sub .i64 m n=m - n:=wrap_i64 h
theorem l5{n:Nat}(h:n<=4611686018427387904):ar .add .i64 (n:Int) 1=((n+1:Nat):Int):=by rw[YZ (by omega)];push_cast;rfl
theorem Hb{A:Type}{l:List A}{n:Nat}(h:l.length<=n)(hn:n<=140737488355328):l.length<fI:=by unfold fI;omega
theorem kV{A:Type}{l pre rest:List A}{x:A}(h:l=pre++x::rest):cm .lss (pre.length:Int) (l.length:Int)=true:=by rw[h];exact pK pre x rest
theorem kA{A:Type}{l pre rest:List A}{x:A}(h:l=pre++x::rest):Sw.idx l (pre.length:Int)=some x:=by rw[h];exact mU pre x rest
theorem kW{A:Type}{l:List A}{i:Nat}{x:A}(h:l[i]? =some x):Sw.idx l (i:Int)=some x:=by unfold Sw.idx;simp[h]
theorem wL{A:Type}{l:List A}{n:Int}(h0:0<=n)(h1:n<l.length):∃x,Sw.idx l n=some x/\l[n.toNat]? =some x:=by
 have:n.toNat<l.length:=by omega
 exact⟨l[n.toNat],by unfold Sw.idx;simp[h0,this],by simp[this]⟩
theorem Rt{n:Int}(h:Wf (Wr.int .i64) n): -9223372036854775808<=n/\n<=9223372036854775807:=by
 have:=h.int;unfold Co at this;simpa[IntKind.min,IntKind.max,IntKind.signed,IntKind.bits] using this
theorem Ru{α A β γ:Type}{step:α->Option (Step α (Ex β γ))}{l:List A}{k:β->Option γ}(st:Nat->α)(yM:A->Bool)(z:Nat->γ)(y:β)(hf:l.length<fI)
  (hs:∀pre x rest,l=pre++x::rest->step (st pre.length)=some (if yM x then .done (.ret (z pre.length)) else .next (st (pre.length+1)))) (he:step (st l.length)=some (.done (.VP y))):
  lp step (st 0) k=match l.findIdx? yM with | some j=>some (z j) | none=>k y:=by
 have B:∀(rest pre:List A) (f:Nat),l=pre++rest->rest.length<f->loop step f (st pre.length)=some (match rest.findIdx? yM with | some j=> .ret (z (pre.length+j)) | none=> .VP y):=by
  intro rest
  induction rest with
  |nil=>
   intro pre f h hf;obtain⟨f,rfl⟩:∃f',f=f'+1:=⟨f - 1,by simp at hf;omega⟩;rw[V2] at h;rw[<-h];simp[loop,he]
  |cons x rest C=>
   intro pre f h hf;obtain⟨f,rfl⟩:∃f',f=f'+1:=⟨f - 1,by simp at hf;omega⟩;simp only[loop,hs pre x rest h,List.findIdx?_cons];by_cases u:yM x=true
   ·simp[u]
   ·have:=C (pre++[x]) f (by rw[h];simp) (by simp at hf;omega);simp only[yj] at u;simp only[u,O5,ZN];rw[pT,aCd] at this;rw[this];cases rest.findIdx? yM with
    |none=>rfl
    |some j=>simp only[oh];congr 3;omega
 have:=B l [] fI rfl hf;unfold lp;simp only[V1,ym] at this;rw[this];cases l.findIdx? yM<;>rfl
theorem Jt{A:Type}(l:List A)(yM:A->Bool):l.any yM=(l.findIdx? yM).isSome:=by
 simp
end Go.Pl
namespace Go.Pl
open Go Go.Sw
def yJ{A B D:Type}(g:B->A->Step B D)(fin:B->D):B->List A->D
 |acc,[]=>fin acc
 |acc,x::xs=>match g acc x with
  | .next h=>yJ g fin h xs
  | .done d=>d
theorem Kx{α A B β γ:Type}{step:α->Option (Step α (Ex β γ))}{l:List A}{k:β->Option γ}(st:Nat->B->α)(I:List A->B->Prop)(g:B->A->Step B (Ex β γ))(fin:B->Ex β γ)(YB:B)(hf:l.length<fI)(h0:I [] YB)
  (hs:∀pre x rest acc,l=pre++x::rest->I pre acc->step (st pre.length acc)=some (Ie st (pre.length+1) (g acc x))/\∀WS,g acc x= .next WS->I (pre++[x]) WS)
  (he:∀acc,I l acc->step (st l.length acc)=some (.done (fin acc))):
  lp step (st 0 YB) k=out k (yJ g fin YB l):=by
 have C:∀(rest pre:List A) (acc:B) (f:Nat),l=pre++rest->I pre acc->rest.length<f->loop step f (st pre.length acc)=some (yJ g fin acc rest):=by
  intro rest
  induction rest with
  |nil=>
   intro pre acc f u z hf;obtain⟨f,rfl⟩:∃f',f=f'+1:=⟨f - 1,by simp at hf;omega⟩;rw[V2] at u;subst u;simp[loop,he acc z,yJ]
  |cons x rest F=>
   intro pre acc f u z hf;obtain⟨f,rfl⟩:∃f',f=f'+1:=⟨f - 1,by simp at hf;omega⟩;obtain⟨D,E⟩:=hs pre x rest acc u z;simp only[loop,D,yJ];cases hg:g acc x with
   |done d=>rfl
   |next WS=>
    have:=F (pre++[x]) WS f (by rw[u];simp) (E WS hg) (by simp at hf;omega);simpa[Ie] using this
 have h:=C l [] YB fI rfl h0 hf;unfold lp;simp only[V1] at h;rw[h];cases yJ g fin YB l<;>rfl
theorem GO{α A B β γ:Type}{step:α->Option (Step α (Ex β γ))}{l:List A}{k:β->Option γ}(st:Nat->B->α)(I:List A->B->Prop)(fin:B->β)(YB:B)(hf:l.length<fI)(h0:I [] YB)
  (hs:∀pre x rest acc,l=pre++x::rest->I pre acc->∃WS,step (st pre.length acc)=some (.next (st (pre.length+1) WS))/\I (pre++[x]) WS)
  (he:∀acc,I l acc->step (st l.length acc)=some (.done (.VP (fin acc)))):∃acc,I l acc/\lp step (st 0 YB) k=k (fin acc):=by
 have D:∀(rest pre:List A) (acc:B) (f:Nat),l=pre++rest->I pre acc->rest.length<f->∃WS,I l WS/\loop step f (st pre.length acc)=some (.VP (fin WS)):=by
  intro rest
  induction rest with
  |nil=>
   intro pre acc f h u hf;obtain⟨f,rfl⟩:∃f',f=f'+1:=⟨f - 1,by simp at hf;omega⟩;rw[V2] at h;subst h;exact⟨acc,u,by simp[loop,he acc u]⟩
  |cons x rest H=>
   intro pre acc f h u hf;obtain⟨f,rfl⟩:∃f',f=f'+1:=⟨f - 1,by simp at hf;omega⟩;obtain⟨WS,C,z⟩:=hs pre x rest acc h u;obtain⟨E,F,G⟩:=H (pre++[x]) WS f (by rw[h];simp) z (by simp at hf;omega);exact⟨E,F,by simp only[loop,C];simpa using G⟩
 obtain⟨acc,C,z⟩:=D l [] YB fI rfl h0 hf;exact⟨acc,C,by unfold lp;simp only[V1] at z;rw[z]⟩
theorem Cx{α A B β γ:Type}{step:α->Option (Step α (Ex β γ))}{l:List A}{k:β->Option γ}{r:Option γ}(st:Nat->B->α)(I:List A->B->Prop)(fin:B->β)(YB:B)(hf:l.length<fI)(h0:I [] YB)
  (hs:∀pre x rest acc,l=pre++x::rest->I pre acc->∃WS,step (st pre.length acc)=some (.next (st (pre.length+1) WS))/\I (pre++[x]) WS)
  (he:∀acc,I l acc->step (st l.length acc)=some (.done (.VP (fin acc)))) (hr:∀acc,I l acc->k (fin acc)=r):lp step (st 0 YB) k=r:=by
 obtain⟨acc,h,u⟩:=GO (k:=k) st I fin YB hf h0 hs he;rw[u,hr acc h]
theorem LF{α β γ:Type}{step:α->Option (Step α (Ex β γ))}{k:β->Option γ}(I:α->Prop)(m:α->Nat)(R:β->Prop)(s0:α)(hm:m s0<fI)(h0:I s0)
  (hs:∀s,I s->(∃s',step s=some (.next s')/\I s'/\m s'<m s)\/∃y,step s=some (.done (.VP y))/\R y):∃y,R y/\lp step s0 k=k y:=by
 have A:∀(n:Nat) (s:α) (f:Nat),m s<=n->n<f->I s->∃y,R y/\loop step f s=some (.VP y):=by
  intro n
  induction n with
  |zero=>
   intro s f B C z;obtain⟨f,rfl⟩:∃f',f=f'+1:=⟨f - 1,by omega⟩;rcases hs s z with⟨s',h,u,F⟩|⟨y,h,u⟩
   ·omega
   ·exact⟨y,u,by simp[loop,h]⟩
  |succ n G=>
   intro s f B C z;obtain⟨f,rfl⟩:∃f',f=f'+1:=⟨f - 1,by omega⟩;rcases hs s z with⟨s',h,u,F⟩|⟨y,h,u⟩
   ·obtain⟨y,D,E⟩:=G s' f (by omega) (by omega) u;exact⟨y,D,by simp[loop,h,E]⟩
   ·exact⟨y,u,by simp[loop,h]⟩
 obtain⟨y,h,u⟩:=A (m s0) s0 fI (XZ _) hm h0;exact⟨y,h,by unfold lp;rw[u]⟩
theorem TZ{i j:Nat}(h:i+j<=4611686018427387904):IntKind.wrap .i64 (sh .shr .u64 (IntKind.wrap .u64 (ar .add .i64 (i:Int) (j:Int))) (1:Int))=(((i+j) / 2:Nat):Int):=by
 rw[YZ (by omega)];have u:IntKind.wrap .u64 ((i:Int)+(j:Int))=(i:Int)+(j:Int):=Ar (k:= .u64) (by unfold Co;simp[IntKind.min,IntKind.max,IntKind.signed,IntKind.bits];omega);rw[u];have z:sh .shr .u64 ((i:Int)+(j:Int)) 1=(((i+j) / 2:Nat):Int):=by
  show Int.fdiv _ _=_;have:(2:Int) ^ min (1:Int).toNat (IntKind.bits .u64)=2:=by decide
  rw[this,ug _ (by omega)];omega
 rw[z];exact wrap_i64 (by omega)
theorem NT(c:Bool){γ:Type}(x y:Option γ):(bif c then x else y)=if c=true then x else y:=by cases c<;>rfl
end Go.Pl
namespace Go.Pl
open Go Go.Sw Go.Mo
def C1(n:Int):Prop:= -9223372036854775808<=n/\n<=9223372036854775807
def pick(c n:Int):Int:=(if c<0 then -(c+1) else c).tmod n
theorem Ky{c n:Int}(hc:C1 c)(hn:0<n):lI c n=some (pick c n):=by
 unfold lI pick;have u:nz n=some ():=GN (by omega);simp only[jp,u,cM,cl];by_cases h:c<0
 ·simp only[h,Y8,WR,ZH];rw[YZ (by unfold C1 at hc;omega),wrap_i64 (by unfold C1 at hc;omega)];rw[show 0 - (c+1)= -(c+1) by omega];rfl
 ·simp only[h,y6,pF,ZN];rfl
theorem Kz{c n:Int}(hn:0<n):0<=pick c n/\pick c n<n:=by
 unfold pick;have h:0<=(if c<0 then -(c+1) else c):=by split<;>omega
 exact⟨aEu _ h,Int.tmod_lt_of_pos _ hn⟩
def GP(l:List Int):Prop:=(∀x∈l,C1 x)/\l.length<=256
theorem Xl{l:List Int}(h:GP l)(i:Nat)(hi:i<=1000000):∃v:Nat,tK l (i:Int)=some (v:Int)/\v<=1000003+i*7919:=by
 unfold tK;rw[ce];by_cases u:(l.length:Int)=0
 ·refine⟨i*31,?_,by omega⟩;simp only[u,Y8,WR];rw[show ar .mul .i64 (i:Int) 31=((i*31:Nat):Int) from Ha (b:=31) (by omega)]
 ·have A:0<l.length:=by omega
  have z:i % l.length<l.length:=kn _ A;simp only[u,y6,pF,GN u,cM];rw[AD,kW (C3 z),cM];rw[Ky (h.1 _ (eo z)) (by omega),cM,GM (by omega)];have C:=Kz (c:=l[i % l.length]) (n:=1000003) (by omega);have B:i / l.length<=i:=Nat.div_le_self _ _;refine⟨(pick l[i % l.length] 1000003).toNat+i / l.length*7919,?_,?_⟩
  ·rw[show ar .mul .i64 ((i / l.length:Nat):Int) 7919=((i / l.length*7919:Nat):Int) from Ha (b:=7919) (by omega)];rw[YZ (by omega)];have e:pick l[i % l.length] 1000003=(((pick l[i % l.length] 1000003).toNat:Nat):Int):=by omega
   rw[e];congr 1
  ·have:i / l.length*7919<=i*7919:=td _ B;omega
theorem CJ(n:Int):0<=IntKind.wrap .u8 n/\IntKind.wrap .u8 n<=255:=by
 unfold IntKind.wrap;simp only[IntKind.signed,IntKind.bits];simp;omega
def YK(b:aR):Prop:=b.length=8/\Bytes b
theorem y7:YK aU:=⟨rfl,fun x h=>by unfold aU at h;simp at h;omega⟩
theorem GQ{b:aR}(h:YK b)(i:Nat)(n:Int):YK (List.set b i (IntKind.wrap .u8 n)):=by
 refine⟨by simpa using h.1,fun x u=>?_⟩;rcases aC0 u with u | rfl
 ·exact h.2 x u
 ·exact CJ n
theorem NU{α β γ:Type}{step:α->Option (Step α (Ex β γ))}{k:β->Option γ}{B:Type}(st:Nat->B->α)(fin:B->β)(n:Nat)(I:Nat->B->Prop)(b0:B)(hf:n<fI)(h0:I 0 b0)
  (hs:∀i b,i<n->I i b->∃b',step (st i b)=some (.next (st (i+1) b'))/\I (i+1) b') (he:∀b,I n b->step (st n b)=some (.done (.VP (fin b)))):
  ∃b,I n b/\lp step (st 0 b0) k=k (fin b):=by
 have A:∀(m i f:Nat) (b:B),i+m=n->m<f->I i b->∃b',I n b'/\loop step f (st i b)=some (.VP (fin b')):=by
  intro m
  induction m with
  |zero=>
   intro i f b C hf h;obtain⟨f,rfl⟩:∃f',f=f'+1:=⟨f - 1,by omega⟩;have:i=n:=by omega
   subst this;exact⟨b,h,by simp[loop,he b h]⟩
  |succ m G=>
   intro i f b C hf h;obtain⟨f,rfl⟩:∃f',f=f'+1:=⟨f - 1,by omega⟩;obtain⟨b',u,z⟩:=hs i b (by omega) h;obtain⟨D,E,F⟩:=G (i+1) f b' (by omega) (by omega) z;exact⟨D,E,by simp[loop,u,F]⟩
 obtain⟨b,u,z⟩:=A n 0 fI b0 (by omega) hf h0;exact⟨b,u,by unfold lp;rw[z]⟩
theorem Rv{l:List Int}(h:GP l)(at_:Nat)(ha:at_<=100000):∃b,kC l (at_:Int)=some b/\YK b:=by
 unfold kC;obtain⟨v,K,R⟩:=Xl h at_ (by omega)
 rw[K,cM,ce];by_cases B:ar .rem .i64 (v:Int) 3=0
 ·exact⟨aU,by simp[B],y7⟩
 ·have E:Sw.idx aU (0:Int)=some 0:=by unfold Sw.idx aU;simp
  simp only[B,y6,pF,E,cM,jp];have C:YK (List.set aU (Int.toNat (0:Int)) (IntKind.wrap .u8 (ar .add .i64 (1:Int) (ar .rem .i64 (ar .quo .i64 (v:Int) (3:Int)) (5:Int))))):=GQ y7 _ _;by_cases D:ar .rem .i64 (v:Int) 3=2
  ·rw[ce];simp only[D,Y8,WR]
   obtain⟨b,L,M⟩:=NU (γ:=aR) (step:=fun (u:Int×aR)=>
     bif (cm .lss u.1 (8:Int)) then
      (tK l (ar .add .i64 (at_:Int) u.1)).bind fun H=>
       (Sw.idx u.2 u.1).bind fun _=>
        some (.next ((ar .add .i64 u.1 (1:Int)),(List.set u.2 (Int.toNat u.1) (IntKind.wrap .u8 (ar .quo .i64 H (7:Int))))))
     else
      some (.done (.VP u.2))) (k:=fun I=>some I) (fun (i:Nat) (b:aR)=>(((i+1:Nat):Int),b)) id 7 (fun _ b=>YK b) (List.set aU (Int.toNat (0:Int)) (IntKind.wrap .u8 (ar .add .i64 (1:Int) (ar .rem .i64 (ar .quo .i64 (v:Int) (3:Int)) (5:Int))))) (by decide) C
    (fun i b Q A=>by
     have z:((i+1:Nat):Int)<8:=by omega
     obtain⟨N,O,_⟩:=Xl h (at_+(i+1)) (by omega);obtain⟨y,P,_⟩:=wL (l:=b) (n:=((i+1:Nat):Int)) (by omega) (by have:=A.1;omega);have F:ar .add .i64 ((at_:Nat):Int) ((i+1:Nat):Int)=((at_+(i+1):Nat):Int):=RF (by omega);have G:ar .add .i64 ((i+1:Nat):Int) 1=((i+1+1:Nat):Int):=l5 (by omega);refine⟨_,?_,GQ A (Int.toNat ((i+1:Nat):Int)) (ar .quo .i64 (N:Int) 7)⟩
     simp only[cl,z,Y8,WR,F,O,P,G,cM])
    (fun b A=>by
     have z:¬((7+1:Nat):Int)<8:=by omega
     simp only[cl,z,y6,pF];rfl)
   exact⟨b,M,L⟩
  ·rw[ce];simp only[D,y6,pF];exact⟨_,rfl,C⟩
end Go.Pl
namespace Go.XX
open Go.Pl
open Go Go.Sw Go.Mo
abbrev lP:=List aR×List (Int×aR)×Int
def pU(n:Nat)(p:Int×aR):Bool:=decide (p.1<0) || decide (p.1>=n)
def mV(d:lP):Int:=if d.1.length<1\/d.1.length>200\/d.2.1.length>800 then 2 else if d.2.1.any (pU d.1.length) then 1 else 0
theorem Ug(x:Int×aR)(d:lP):lJ x d=some (pU d.1.length x):=by
 unfold lJ pU;simp only[cl,G7];by_cases h:x.1<0<;>simp[h]
theorem Ok(l:List (Int×aR))(d:lP)(hl:l.length<=1000000):cH l d=some (l.any (pU d.1.length)):=by
 unfold cH dH;have h:=Ru (l:=l) (γ:=Int) (β:=Unit) (step:=fun (u:Int)=>bif (cm .lss u (l.length:Int)) then (Sw.idx l u).bind fun z=>(lJ z d).bind fun A=>bif A then some (.done (.ret u)) else some (.next (ar .add .i64 u (1:Int))) else some (.done (.VP ()))) (k:=fun _=>some (-1:Int)) (fun (i:Nat)=>(i:Int)) (pU d.1.length) (fun i=>(i:Int)) () (Hb hl (by decide)) ?_ ?_
 ·have B:lp (β:=Unit) (fun (u:Int)=>bif (cm .lss u (l.length:Int)) then (Sw.idx l u).bind fun z=>(lJ z d).bind fun A=>bif A then some (.done (.ret u)) else some (.next (ar .add .i64 u (1:Int))) else some (.done (.VP ()))) (0:Int) (fun _=>some (-1:Int))=_:=h;rw[B,Jt];cases hf:l.findIdx? (pU d.1.length) with
  |none=>simp[G7]
  |some j=>simp[G7]
 ·intro C x D h;simp only[kV h,WR,kA h,cM,Ug];by_cases c:pU d.1.length x=true
  ·simp[c]
  ·simp only[yj] at c;simp only[c,pF,O5,ZN];rw[l5 (by rw[h] at hl;simp at hl;omega)]
 ·simp only[dQ,pF]
theorem wM(d:lP):mP d=some (if mV d=0 then none else some (mV d)):=by
 unfold mP mV;simp only[cl,cg];by_cases z:d.1.length<1
 ·have:(d.1.length:Int)<1:=by omega
  simp[z,this]
 by_cases A:d.1.length>200
 ·have h:¬(d.1.length:Int)<1:=by omega
  have u:(d.1.length:Int)>200:=by omega
  simp[z,A,h,u]
 by_cases C:d.2.1.length>800
 ·have h:¬(d.1.length:Int)<1:=by omega
  have u:¬(d.1.length:Int)>200:=by omega
  have B:(d.2.1.length:Int)>800:=by omega
  simp[z,A,C,h,u,B]
 have h:¬(d.1.length:Int)<1:=by omega
 have u:¬(d.1.length:Int)>200:=by omega
 have B:¬(d.2.1.length:Int)>800:=by omega
 simp only[h,u,B,z,A,C,y6,pF,cM,aEy,ZN];rw[Ok _ _ (by omega)];by_cases c:d.2.1.any (pU d.1.length)=true<;>simp[c]
end Go.XX
namespace Go.XX
open Go.Pl
open Go Go.Sw Go.Mo
def LG(n:Int):Int:=if n>0 then ar .sub .i64 n 1 else n
theorem AF(s:List aR)(p:List (Int×aR))(n:Int):jE s p n=some (if n=0 then (some 4,s,p,n) else (none,s,p,LG n)):=by
 unfold jE jp LG;rw[ce,cg];by_cases h:n=0
 ·simp[h]
 ·by_cases q:n>0<;>simp[h,q]
theorem j2(d:lP)(h1:d.1.length<=1000)(h2:d.2.1.length<=1000):rJ d=some (d.1,d.2.1,d.2.2):=by
 unfold rJ aO bV;rw[UQ _ _ (by simp;omega),UQ _ _ (by simp;omega)];rfl
def Ew(a:Int)(l:List (Int×aR))(z:aR):aR:=(l.zipIdx).foldl (fun acc x=>if x.1.1=a then x.1.2 else acc) z
theorem zQ(a:Int)(z:aR)(l:List (Int×aR)):Ew a l z=l.foldl (fun acc p=>if p.1=a then p.2 else acc) z:=by
 unfold Ew;have:∀(l:List (Int×aR)) (i:Nat) (z:aR),(l.zipIdx i).foldl (fun acc x=>if x.1.1=a then x.1.2 else acc) z=l.foldl (fun acc p=>if p.1=a then p.2 else acc) z:=by
  intro l
  induction l with
  |nil=>intro i z;rfl
  |cons p l h=>intro i z;simp only[aCm,O7];exact h _ _
 exact this l 0 z
def Fs(a:Int):List (Int×(Int×aR))->Option aR
 | []=>none
 |p::l=>if p.2.1=a then some p.2.2 else Fs a l
theorem Px(a:Int):∀its:List (Int×(Int×aR)),Y1 (δ:=aR) (fun (W6:(Int×(Int×aR))) (_:Unit)=>
  bif (cm .eql W6.2.1 a) then
   some (.done W6.2.2)
  else
   some (.next ())
  ) its ()=some (match Fs a its with | some b=> .ret b | none=> .VP ())
 | []=>rfl
 |p::l=>by
  simp only[Y1,Fs,ce];by_cases h:p.2.1=a
  ·simp[h]
  ·simp only[h,y6,pF,ZN];have:=Px a l;simp only[ce] at this;exact this
theorem Ju(a:Int)(z:aR):∀its:List (Int×(Int×aR)),(Fs a its).getD z=(its.map Prod.snd).foldr (fun p acc=>if p.1=a then p.2 else acc) z
 | []=>rfl
 |p::l=>by
  simp only[Fs,D9,List.foldr_cons,<-Ju a z l];by_cases h:p.2.1=a<;>simp[h]
theorem CK{α:Type}(l:List α):(Sw.D4 l).map Prod.snd=l.reverse:=by
 unfold Sw.D4;rw[List.map_reverse,aEt];congr 1;have:∀(l:List α) (i:Nat),(l.zipIdx i).map (Prod.snd∘fun x:α×Nat=>((x.2:Int),x.1))=l:=by
  intro l
  induction l with
  |nil=>intro i;rfl
  |cons x l h=>intro i;simp only[aCm,D9,h];rfl
 exact this l 0
theorem Xm(a:Int)(z:aR)(l:List (Int×aR)):(Fs a (Sw.D4 l)).getD z=Ew a l z:=by
 rw[Ju,CK,zQ,List.foldr_reverse]
theorem LH(d:lP)(a:Int)(hl:d.2.1.length<=1000):iN d a=some (if mV d=0 then (if a<0\/a>=d.1.length then (aU,some 1) else if d.2.2=0 then (aU,some 4) else (Ew a d.2.1 (d.1.getD a.toNat []),none)) else (aU,some (mV d))):=by
 unfold iN;rw[wM,cM];by_cases e:mV d=0
 ·simp only[e,ZH,ZI,pF,cl,G7];by_cases h:a<0
  ·simp[h]
  by_cases u:a>=d.1.length
  ·simp[h,u]
  simp only[h,u,y6,pF,cM,aEy,ZN];rw[ce d.2.2];by_cases z:d.2.2=0
  ·simp[z]
  have A:small d.2.1=some ():=by unfold small;rw[VX (by omega)]
  have B:a.toNat<d.1.length:=by omega
  have C:Sw.idx d.1 a=some (d.1.getD a.toNat []):=by unfold Sw.idx;rw[VX (by omega)];simp[R2,C3 B]
  have D:fM d.2.1=some d.2.1:=rfl;simp only[z,y6,pF,ZN,D,cM,A,rg,Px,C];rw[<-Xm];cases Fs a (Sw.D4 d.2.1)<;>rfl
 ·simp[e]
def yX(d:lP):List aR:=(d.2.1.zipIdx).foldl (fun acc x=>acc.set x.1.1.toNat x.1.2) d.1
theorem Xn(d:lP):(yX d).length=d.1.length:=by
 unfold yX;generalize d.2.1.zipIdx=z;generalize d.1=s
 induction z generalizing s with
 |nil=>rfl
 |cons x z h=>rw[O7,h];simp
theorem RG{d:lP}(e:mV d=0):∀p∈d.2.1,0<=p.1/\p.1<d.1.length:=by
 unfold mV at e;split at e
 ·cases e
 ·split at e
  ·cases e
  ·rename_i A u;intro p z;have:pU d.1.length p=false:=by
    simp only[yj] at u;exact(aEl.1 u p z) |> fun h=>by simpa using h
   unfold pU at this;simp at this;omega
theorem Xo(d:lP)(e:mV d=0){p:Int×aR}(hp:p∈d.2.1){acc:List aR}(ha:acc.length=d.1.length):∃z,Sw.idx acc p.1=some z:=by
 have:=RG e p hp;have h:p.1.toNat<acc.length:=by omega
 exact⟨acc[p.1.toNat],by unfold Sw.idx;rw[VX this.1,C3 h]⟩
theorem GR(d:lP)(h1:d.1.length<=1000)(h2:d.2.1.length<=1000):rL d=some (if mV d=0 then (if d.2.2=0 then (([],[],0),some 4) else ((yX d,[],LG d.2.2),none)) else (([],[],0),some (mV d))):=by
 unfold rL;rw[wM,cM];by_cases e:mV d=0
 ·simp only[e,ZH,ZI,pF];rw[j2 d h1 h2,cM,AF,cM];by_cases u:d.2.2=0
  ·simp[u]
  simp only[u,ZN,ZI,pF];refine(A1 (l:=d.2.1) (fun i (acc:List aR)=>((i:Int),acc)) (fun _ acc=>acc.length=d.1.length) d.1 (fun _ p acc=>acc.set p.1.toNat p.2) id (Hb h2 (by decide)) rfl ?_ ?_).trans ?_
  ·intro B p E acc h A;have D:B.length<=1000:=by rw[h] at h2;simp at h2;omega
   obtain⟨z,C⟩:=Xo d e (p:=p) (by rw[h];simp) A;refine⟨?_,by simpa using A⟩;simp only[kV h,WR,kA h,cM,C];rw[l5 (by omega)]
  ·intro acc _;simp only[dQ,pF];rfl
  ·rfl
 ·simp[e]
theorem GS(d:lP)(a:Int)(b:aR)(h1:d.1.length<=1000)(h2:d.2.1.length<=1000):rK d a b=some (if mV d=0 then (if a<0\/a>=d.1.length then (([],[],0),some 1) else if (d.2.1.length:Int)=800 then (([],[],0),some 2) else if d.2.2=0 then (([],[],0),some 4) else ((d.1,d.2.1++[(a,b)],LG d.2.2),none)) else (([],[],0),some (mV d))):=by
 unfold rK;rw[wM,cM];by_cases e:mV d=0
 ·simp only[e,ZH,ZI,pF,cl,G7];by_cases h:a<0
  ·simp[h]
  by_cases u:a>=d.1.length
  ·simp[h,u]
  simp only[h,u,y6,pF,cM,aEy,ZN];rw[ce];by_cases z:(d.2.1.length:Int)=800
  ·simp[z]
  simp only[z,y6,pF,ZN];rw[j2 d h1 h2,cM,AF,cM];by_cases A:d.2.2=0
  ·simp[A]
  simp only[A,ZN,ZI,pF];rw[UQ _ _ (by simp;omega),cM]
 ·simp[e]
end Go.XX
namespace Go.XX
open Go.Pl
open Go Go.Sw Go.Mo
def upd(f:Nat->aR)(a:Nat)(b:aR):Nat->aR:=fun x=>if x=a then b else f x
structure Vw (m:Nat) (d:lP) (f:Nat->aR) (k:Nat):Prop where
 len:d.1.length=m
 B8:1<=m/\m<=200
 left:d.2.2= -1
 sr:d.2.1.length<=k
 lim:k<=800
 Y1:∀p∈d.2.1,0<=p.1/\p.1<(m:Int)
 is:∀a,a<m->Ew (a:Int) d.2.1 (d.1.getD a [])=f a
variable {m k:Nat}{d:lP}{f:Nat->aR}
theorem Vw.err(h:Vw m d f k):mV d=0:=by
 unfold mV;have B:=h.len;have C:=h.B8;have D:=h.sr;have E:=h.lim;rw[VN (by omega),VN];intro z;obtain⟨p,A,u⟩:=aDc.1 z;have:=h.Y1 p A;unfold pU at u;simp at u;omega
theorem Vw.read(h:Vw m d f k){a:Int}(h0:0<=a)(h1:a<m):iN d a=some (f a.toNat,none):=by
 have u:=h.sr;have z:=h.lim;have A:=h.len;rw[LH d a (by omega),VX h.err,VN (by omega),VN (by rw[h.left];decide)];have:=h.is a.toNat (by omega);rw[show ((a.toNat:Nat):Int)=a by omega] at this;rw[this]
theorem Xp(a x:Int)(b z:aR)(l:List (Int×aR)):Ew a (l++[(x,b)]) z=if x=a then b else Ew a l z:=by
 rw[zQ,zQ,aC5];rfl
theorem Vw.write(h:Vw m d f k){a:Int}{b:aR}(h0:0<=a)(h1:a<m)(hk:k<800):
  rK d a b=some ((d.1,d.2.1++[(a,b)],-1),none)/\Vw m (d.1,d.2.1++[(a,b)],-1) (upd f a.toNat b) (k+1):=by
 have C:=h.sr;have D:=h.lim;have z:=h.len;have A:=h.B8;refine⟨?_,⟨z,A,rfl,by simp;omega,by omega,?_,?_⟩⟩
 ·rw[GS d a b (by omega) (by omega),VX h.err,VN (by omega),VN (by omega),VN (by rw[h.left];decide),h.left];rfl
 ·intro p u;rcases J6.1 u with u | u
  ·exact h.Y1 p u
  ·simp at u;subst u;exact⟨h0,h1⟩
 ·intro x B;show Ew (x:Int) (d.2.1++[(a,b)]) (d.1.getD x [])=_;rw[Xp];unfold upd;by_cases e:x=a.toNat
  ·rw[VX e,VX (by omega)]
  ·rw[VN e,VN (by omega),h.is x B]
theorem Rw(d:lP):yX d=d.2.1.foldl (fun acc p=>acc.set p.1.toNat p.2) d.1:=by
 unfold yX;have h:∀(l:List (Int×aR)) (n:Nat) (s:List aR),(l.zipIdx n).foldl (fun acc x=>acc.set x.1.1.toNat x.1.2) s=l.foldl (fun acc p=>acc.set p.1.toNat p.2) s:=by
  intro l
  induction l with
  |nil=>intro n s;rfl
  |cons p l u=>intro n s;rw[aCm,O7,O7,u]
 exact h _ _ _
theorem CL(a:Nat):∀(l:List (Int×aR)) (s:List aR),(∀p∈l,0<=p.1/\p.1<(s.length:Int))->(l.foldl (fun acc p=>acc.set p.1.toNat p.2) s).getD a []=l.foldl (fun acc p=>if p.1=(a:Int) then p.2 else acc) (s.getD a []):=by
 intro l
 induction l with
 |nil=>intro s _;rfl
 |cons p l A=>
  intro s h;have B:=h p X5;rw[O7,O7,A _ (fun q z=>by rw[aCu];exact h q (X4 _ z))];congr 1;by_cases e:p.1=(a:Int)
  ·rw[VX e,e];have u:a<s.length:=by omega
   simp[R2,u]
  ·rw[VN e];have:¬p.1.toNat=a:=by omega
   simp[R2,this]
theorem Vw.flush(h:Vw m d f k):rL d=some ((yX d,[],-1),none)/\Vw m (yX d,[],-1) f 0:=by
 have C:=h.sr;have D:=h.lim;have z:=h.len;have A:=h.B8;refine⟨?_,⟨by show (yX d).length=m;rw[Xn,z],A,rfl,XZ _,by omega,fun p u=>by simp at u,?_⟩⟩
 ·rw[GR d (by omega) (by omega),VX h.err,VN (by rw[h.left];decide),h.left];rfl
 ·intro a B;show Ew (a:Int) [] ((yX d).getD a [])=f a;rw[zQ];show (yX d).getD a []=f a;rw[Rw,CL a _ _ (fun p u=>by rw[z];exact h.Y1 p u),<-zQ,h.is a B]
theorem Vw.R8(h:Vw m d f k)(n:Int){a:Int}{b:aR}(h0:0<=a)(h1:a<m)(hk:k<800):
  ∃d',dS n d a b=some (none,n,d')/\Vw m d' (upd f a.toNat b) (k+1):=by
 obtain⟨e,v⟩:=h.write (b:=b) h0 h1 hk;refine⟨_,?_,v⟩;unfold dS;rw[e];rfl
theorem Vw.fq(h:Vw m d f k)(n:Int):∃d',eQ n d=some (none,n,d')/\Vw m d' f 0:=by
 obtain⟨e,v⟩:=h.flush;refine⟨_,?_,v⟩;unfold eQ;rw[e];rfl
end Go.XX
namespace Go.XX
open Go.Pl
open Go Go.Sw Go.Mo
abbrev LI:=Option Int×Int×lP
inductive ko {Q:Type} (F:Q->Int->lP->Option LI) (n:Int):List Q->lP->lP->Prop
 |nil {d:lP}:ko F n [] d d
 |cons {q:Q} {l:List Q} {d d1 d2:lP}:F q n d=some (none,n,d1)->ko F n l d1 d2->ko F n (q::l) d d2
theorem ko.append{Q:Type}{F:Q->Int->lP->Option LI}{n:Int}{l l':List Q}{d d1 d2:lP}(h:ko F n l d d1)(k:ko F n l' d1 d2):ko F n (l++l') d d2:=by
 induction h with
 |nil=>exact k
 |cons e _ u=>exact .cons e (u k)
theorem AG{Q:Type}{F:Q->Int->lP->Option LI}{n:Int}{xs:List Q}{d d2:lP}(h:ko F n xs d d2)(hl:xs.length<=100000):
  lp (β:=Int×lP) (fun (VR:Int×Int×lP)=>
  bif (cm .lss VR.1 (xs.length:Int)) then
   (Sw.idx xs VR.1).bind fun y5=>
    (F y5 VR.2.1 VR.2.2).bind fun v20=>
     bif (Option.isSome v20.1) then
      some (.done (.ret (v20.1,v20.2.1,v20.2.2)))
     else
      some (.next ((ar .add .i64 VR.1 (1:Int)),v20.2.1,v20.2.2))
  else
   some (.done (.VP (VR.2.1,VR.2.2)))
  ) ((0:Int),n,d) (fun (ZP:Int×lP)=>some ((none:Option Int),ZP.1,ZP.2))=some (none,n,d2):=by
 generalize XI:(fun (VR:Int×Int×lP)=>
  bif (cm .lss VR.1 (xs.length:Int)) then
   (Sw.idx xs VR.1).bind fun y5=>
    (F y5 VR.2.1 VR.2.2).bind fun v20=>
     bif (Option.isSome v20.1) then
      some (Step.done (Ex.ret (v20.1,v20.2.1,v20.2.2)))
     else
      some (Step.next ((ar .add .i64 VR.1 (1:Int)),v20.2.1,v20.2.2))
  else
   some (Step.done (Ex.VP (VR.2.1,VR.2.2))))=step
 have E:∀(A u:List Q) (d:lP) (f:Nat),xs=u++A->ko F n A d d2->A.length<f->loop step f ((u.length:Int),n,d)=some (.VP (n,d2)):=by
  intro A
  induction A with
  |nil=>
   intro u d f z B C;obtain⟨f,rfl⟩:∃f',f=f'+1:=⟨f - 1,by simp at C;omega⟩;rw[V2] at z;cases B;have:step ((u.length:Int),n,d2)=some (.done (.VP (n,d2))):=by rw[<-XI,z];simp only[dQ,pF]
   simp[loop,this]
  |cons q A H=>
   intro u d f z B C;obtain⟨f,rfl⟩:∃f',f=f'+1:=⟨f - 1,by simp at C;omega⟩;cases B with
   |cons e B=>
    rename_i D;have:step ((u.length:Int),n,d)=some (.next (((u.length+1:Nat):Int),n,D)):=by
     rw[<-XI];simp only[kV z,WR,kA z,cM,e,ZI,pF];rw[l5 (by rw[z] at hl;simp at hl;omega)]
    have G:=H (u++[q]) D f (by rw[z];simp) B (by simp at C;omega);simp only[loop,this];simpa using G
 have:=E xs [] d fI rfl h (by unfold fI;omega);unfold lp;simp only[V1] at this;rw[show ((0:Int),n,d)=(((0:Nat):Int),n,d) from rfl,this]
variable {m k:Nat}{d:lP}{f:Nat->aR}
def QO(b:Int):aR:=[b]++List.replicate 7 (0:Int)
theorem Vw.zj(h:Vw m d f k){n:Nat}(hn:n+1<m)(b:Int)(hk:k<800):
  ∃d',fR (n:Int) d b=some (none,(n:Int),d')/\Vw m d' (upd f (n+1) (QO b)) 0:=by
 have D:=h.B8;obtain⟨d1,u,B⟩:=h.R8 (n:Int) (a:=((n+1:Nat):Int)) (b:=QO b) (by omega) (by omega) hk;obtain⟨d2,C,z⟩:=B.fq (n:Int);rw[show (((n+1:Nat):Int)).toNat=n+1 from rfl] at z;refine⟨d2,?_,z⟩;have A:ko kT (n:Int) ([(.inl ((),((),b)):dF),(.inr ((),()):dF)]:(List dF)) d d2:=by
  refine .cons (d1:=d1) ?_ (.cons C .nil);show iO b (n:Int) d=_;unfold iO;rw[l5 (by omega)];unfold QO at u;rw[u];rfl
 unfold fR gG;rw[AG A (by simp)];rfl
end Go.XX
namespace Go.XX
open Go.Pl
open Go Go.Sw Go.Mo
theorem AH(n:Nat):IntKind.wrap .u8 (n:Int)=((n % 256:Nat):Int):=by
 show (Int.emod (n:Int) _)=_;rfl
theorem CM(n c:Nat)(hc:c<=64):sh .shr .i64 (n:Int) (c:Int)=((n / 2 ^ c:Nat):Int):=by
 show Int.fdiv (n:Int) (2 ^ min ((c:Nat):Int).toNat 64)=_;rw[j5,oj hc,ug _ (aEb (aEw (by decide)))];push_cast;rfl
theorem CN{n c:Nat}(hn:n<256)(hc:c<=24):sh .shl .i64 (n:Int) (c:Int)=((n*2 ^ c:Nat):Int):=by
 show IntKind.wrap .i64 ((n:Int)*2 ^ min ((c:Nat):Int).toNat 64)=_;rw[j5,oj (by omega)];have h:2 ^ c<=2 ^ 24:=aD8 (by decide) hc;have u:n*2 ^ c<=255*2 ^ 24:=aCx (by omega) h;have e:(n:Int)*2 ^ c=((n*2 ^ c:Nat):Int):=by push_cast;rfl
 rw[e,wrap_i64 (by omega)]
theorem orI{a b:Nat}(ha:a<4611686018427387904)(hb:b<4611686018427387904):ar .or .i64 (a:Int) (b:Int)=((a ||| b:Nat):Int):=by
 have h:a ||| b<2 ^ 62:=aD1 (by simpa using ha) (by simpa using hb)
 show IntKind.wrap .i64 ((BitVec.ofInt 64 (a:Int) ||| BitVec.ofInt 64 (b:Int)).toNat:Int)=_;simp only[rQ,BitVec.toNat_or,yu];rw[L7 (a:=a) (by omega),L7 (a:=b) (by omega)];exact wrap_i64 (by omega)
theorem orP{x y c:Nat}(hy:y<2 ^ c):x*2 ^ c ||| y=x*2 ^ c+y:=by
 have:=aD9 hy x;rw[Nat.shiftLeft_eq] at this;exact this.symm
def kG(v:Nat):List Int:=[((v / 16777216 % 256:Nat):Int),((v / 65536 % 256:Nat):Int),((v / 256 % 256:Nat):Int),((v % 256:Nat):Int)]
theorem ZT(v:Nat):jV (v:Int)=some (kG v++List.replicate 4 (0:Int)):=by
 unfold jV kG;have h:=CM v 24 (by decide);have u:=CM v 16 (by decide);have z:=CM v 8 (by decide);rw[show ((24:Nat):Int)=24 from rfl] at h;rw[show ((16:Nat):Int)=16 from rfl] at u;rw[show ((8:Nat):Int)=8 from rfl] at z;rw[h,u,z,AH,AH,AH,AH]
theorem GU{b3 b2 b1 b0:Nat}(h3:b3<256)(h2:b2<256)(h1:b1<256)(h0:b0<256)(r:List Int):
  gM ((b3:Int)::(b2:Int)::(b1:Int)::(b0:Int)::r)=some ((b3*16777216+b2*65536+b1*256+b0:Nat):Int):=by
 have A:Sw.idx ((b3:Int)::(b2:Int)::(b1:Int)::(b0:Int)::r) (0:Int)=some (b3:Int):=rfl;have B:Sw.idx ((b3:Int)::(b2:Int)::(b1:Int)::(b0:Int)::r) (1:Int)=some (b2:Int):=rfl;have C:Sw.idx ((b3:Int)::(b2:Int)::(b1:Int)::(b0:Int)::r) (2:Int)=some (b1:Int):=rfl;have D:Sw.idx ((b3:Int)::(b2:Int)::(b1:Int)::(b0:Int)::r) (3:Int)=some (b0:Int):=rfl;unfold gM;simp only[A,B,C,D,cM];have h:=CN h3 (show 24<=24 by decide);have u:=CN h2 (show 16<=24 by decide);have z:=CN h1 (show 8<=24 by decide);rw[show ((24:Nat):Int)=24 from rfl] at h;rw[show ((16:Nat):Int)=16 from rfl] at u;rw[show ((8:Nat):Int)=8 from rfl] at z;rw[h,u,z,orI (by omega) (by omega)];rw[orP (x:=b3) (c:=24) (y:=b2*2 ^ 16) (by omega),orI (by omega) (by omega)];rw[show b3*2 ^ 24+b2*2 ^ 16=(b3*256+b2)*2 ^ 16 by omega,orP (c:=16) (y:=b1*2 ^ 8) (by omega),orI (by omega) (by omega)];rw[show (b3*256+b2)*2 ^ 16+b1*2 ^ 8=((b3*256+b2)*256+b1)*2 ^ 8 by omega,orP (c:=8) (y:=b0) (by omega)]
 try (congr 2;omega)
theorem Ef{v:Nat}(h:v<=2147483647)(r:List Int):gM (kG v++r)=some (v:Int):=by
 show gM (((v / 16777216 % 256:Nat):Int)::((v / 65536 % 256:Nat):Int)::((v / 256 % 256:Nat):Int)::((v % 256:Nat):Int)::r)=_;rw[GU (by omega) (by omega) (by omega) (by omega)];congr 2;omega
end Go.XX
namespace Go.XX
open Go.Pl
open Go Go.Sw Go.Mo
theorem Xq{α A B β γ:Type}{step:α->Option (Step α (Ex β γ))}{l:List A}{k:β->Option γ}(st:Nat->B->α)(I:List A->B->Prop)(fin:B->β)(YB:B)(hf:l.length<fI)(h0:I [] YB)
  (hs:∀pre x rest acc,l=pre++x::rest->I pre acc->∃WS,step (st pre.length acc)=some (.next (st (pre.length+1) WS))/\I (pre++[x]) WS)
  (he:∀acc,I l acc->step (st l.length acc)=some (.done (.VP (fin acc)))):∃acc,lp step (st 0 YB) k=k (fin acc)/\I l acc:=by
 obtain⟨a,h,u⟩:=GO (k:=k) st I fin YB hf h0 hs he;exact⟨a,u,h⟩
abbrev OV:=List (Nat×aR)
def It(f:Nat->aR)(l:OV):Nat->aR:=l.foldl (fun f p=>upd f p.1 p.2) f
theorem Iu(f:Nat->aR)(l:OV)(p:Nat×aR):It f (l++[p])=upd (It f l) p.1 p.2:=by unfold It;rw[aC5];rfl
theorem Uh(f:Nat->aR){n:Nat}(l:OV)(h:∀p∈l,p.1<=n){a:Nat}(ha:n<a):It f l a=f a:=by
 unfold It
 induction l generalizing f with
 |nil=>rfl
 |cons p l z=>
  rw[O7,z _ (fun q u=>h q (X4 _ u))];have:=h p X5;unfold upd;rw[VN (by omega)]
variable {m k n:Nat}{d:lP}{f:Nat->aR}
structure Laid (n:Nat) (f:Nat->aR) (l:OV):Prop where
 cnt:∃r,f (n+2)=kG l.length++r
 put:∀i p,l[i]? =some p->(∃r,f (n+3+2*i)=kG p.1++r)/\f (n+4+2*i)=p.2
theorem Vw.aGh(h:Vw m d f k){l:OV}(hl:Laid n f l)(hm:m=3*n+5)(hn:l.length<=n+1)(hp:∀p∈l,p.1<=n)(hk:k+l.length<=800):
  ∃d',gP (n:Int) d=some (none,(n:Int),d')/\Vw m d' (It f l) (k+l.length):=by
 have R:=h.B8;unfold gP;have F:ar .add .i64 (n:Int) (2:Int)=((n+2:Nat):Int):=by rw[YZ (by omega)];push_cast;rfl
 rw[F,h.read (by omega) (by omega),cM,j5];obtain⟨M,N⟩:=hl.cnt;have ev:gM (f (n+2))=some (l.length:Int):=by rw[N];exact Ef (by omega) M
 refine Xq (l:=l) (fun i d=>((none:Option Int),(i:Int),(n:Int),d)) (fun u d=>Vw m d (It f u) (k+u.length)) (fun d=>((none:Option Int),(n:Int),d)) d (Hb (n:=1000) (by omega) (by decide)) h ?_ ?_
 ·intro u p U d z A;have S:u.length<l.length:=by rw[z];simp
  have G:l[u.length]? =some p:=by rw[z];simp
  obtain⟨⟨r,O⟩,P⟩:=hl.put _ _ G;have B:∀q∈u,q.1<=n:=fun q L=>hp q (by rw[z];exact aDn _ L);have T:p.1<=n:=hp p (by rw[z];simp);have H:ar .add .i64 (ar .add .i64 (n:Int) (3:Int)) (ar .mul .i64 (2:Int) (u.length:Int))=((n+3+2*u.length:Nat):Int):=by
   rw[show (2:Int)=((2:Nat):Int) from rfl,Ha (by omega),YZ (m:=(n:Int)) (by omega),YZ (by push_cast;omega)];push_cast;rfl
  have I:ar .add .i64 (ar .add .i64 (n:Int) (4:Int)) (ar .mul .i64 (2:Int) (u.length:Int))=((n+4+2*u.length:Nat):Int):=by
   rw[show (2:Int)=((2:Nat):Int) from rfl,Ha (by omega),YZ (m:=(n:Int)) (by omega),YZ (by push_cast;omega)];push_cast;rfl
  have C:=A.read (a:=((n+3+2*u.length:Nat):Int)) (by omega) (by omega);have D:=A.read (a:=((n+4+2*u.length:Nat):Int)) (by omega) (by omega);rw[j5,Uh f u B (by omega),O] at C;rw[j5,Uh f u B (by omega),P] at D;have K:gM (kG p.1++r)=some (p.1:Int):=Ef (by omega) r;obtain⟨d',Q,E⟩:=A.R8 (n:Int) (a:=(p.1:Int)) (b:=p.2) (by omega) (by omega) (by omega);refine⟨d',?_,?_⟩
  ·simp only[er,WR,ev,cM,kV z,H,I,C,D,jp,K,Q];rw[l5 (by omega)]
  ·rw[Iu,pT,aCd];rw[j5] at E;exact E
 ·intro d A;simp only[er,WR,ev,cM,dQ,pF]
end Go.XX
namespace Go.XX
open Go.Pl
open Go Go.Sw Go.Mo
variable {m k n:Nat}{d:lP}{f:Nat->aR}
theorem Xr(x:Int×aR)(d:lP):iY x (some ((n:Int),d))=some (pU n x):=by
 unfold iY pU;rw[cl];by_cases h:x.1<0
 ·simp[h]
 ·simp[h,G7]
theorem Rx(l:List (Int×aR))(d:lP)(hl:l.length<=1000000):bZ l (some ((n:Int),d))=some (l.any (pU n)):=by
 unfold bZ cQ;rw[show (0:Int)=(fun (i:Nat)=>(i:Int)) 0 from rfl];rw[Ru (l:=l) (fun (i:Nat)=>(i:Int)) (pU n) (fun i=>(i:Int)) () (Hb hl (by decide))]
 ·rw[Jt];cases h:l.findIdx? (pU n) with
  |none=>simp[G7]
  |some j=>simp[G7]
 ·intro u x z h;simp only[kV h,WR,kA h,cM,Xr];rw[l5 (by rw[h] at hl;simp at hl;omega)];cases pU n x<;>rfl
 ·simp only[dQ,pF]
abbrev Mq:=List (Int×aR)
def TU(i:Nat)(p:Int×aR):aE:= .inr (.inl ((),((),((i:Int),p))))
def TV(i:Nat)(p:Int×aR):aE:= .inr (.inr (.inl ((),((),((i:Int),p)))))
def Bf:Nat->Mq->List aE
 |_,[]=>[]
 |i,p::l=>TU i p::TV i p::Bf (i+1) l
theorem Ui(p:Int×aR):∀(l:Mq) (i:Nat),Bf i (l++[p])=Bf i l++[TU (i+l.length) p,TV (i+l.length) p]:=by
 intro l
 induction l with
 |nil=>intro i;rfl
 |cons q l h=>intro i;simp only[dg,Bf,h,B0];rw[show i+1+l.length=i+(l.length+1) by omega]
theorem Ft:∀(l:Mq) (i:Nat),(Bf i l).length=2*l.length:=by
 intro l
 induction l with
 |nil=>intro i;rfl
 |cons q l h=>intro i;simp only[Bf,B0,h];omega
theorem LJ(hm:m=3*n+5)(hn:n<=32):∀(rest:Mq) (i:Nat) (d:lP) (g:Nat->aR) (k:Nat),Vw m d g k->(∀p∈rest,0<=p.1/\p.1<=n)->i+rest.length<=n+1->k+2*rest.length<=800->
  ∃d' g',ko iF (n:Int) (Bf i rest) d d'/\Vw m d' g' (k+2*rest.length)/\(∀x,x<n+3+2*i->g' x=g x)/\
   ∀j p,rest[j]? =some p->(∃r,g' (n+3+2*(i+j))=kG p.1.toNat++r)/\g' (n+4+2*(i+j))=p.2:=by
 intro rest
 induction rest with
 |nil=>intro i d g k h _ _ _;exact⟨d,g,.nil,h,fun _ _=>rfl,fun j p u=>by simp at u⟩
 |cons p rest R=>
  intro i d g k h C I K;have S:=C p X5;simp only[B0] at I K;obtain⟨d1,M,D⟩:=h.R8 (n:Int) (a:=((n+3+2*i:Nat):Int)) (b:=kG p.1.toNat++List.replicate 4 (0:Int)) (by omega) (by omega) (by omega);obtain⟨E,N,z⟩:=D.R8 (n:Int) (a:=((n+4+2*i:Nat):Int)) (b:=p.2) (by omega) (by omega) (by omega);rw[j5] at D z;rw[j5] at z;obtain⟨d',g',O,P,A,Q⟩:=R (i+1) E _ _ z (fun q L=>C q (X4 _ L)) (by omega) (by omega);have F:ar .add .i64 (ar .add .i64 (n:Int) (3:Int)) (ar .mul .i64 (2:Int) (i:Int))=((n+3+2*i:Nat):Int):=by
   rw[show (2:Int)=((2:Nat):Int) from rfl,Ha (by omega),YZ (m:=(n:Int)) (by omega),YZ (by push_cast;omega)];push_cast;rfl
  have G:ar .add .i64 (ar .add .i64 (n:Int) (4:Int)) (ar .mul .i64 (2:Int) (i:Int))=((n+4+2*i:Nat):Int):=by
   rw[show (2:Int)=((2:Nat):Int) from rfl,Ha (by omega),YZ (m:=(n:Int)) (by omega),YZ (by push_cast;omega)];push_cast;rfl
  refine⟨d',g',.cons (d1:=d1) ?_ (.cons (d1:=E) ?_ O),by rw[show k+2*(p::rest).length=k+1+1+2*rest.length by simp;omega];exact P,?_,?_⟩
  ·show gT (i:Int) p (n:Int) d=_;unfold gT;have H:p.1=((p.1.toNat:Nat):Int):=by omega
   have B:=ZT p.1.toNat;rw[<-H] at B;rw[B,cM,F,M];rfl
  ·show gU (i:Int) p (n:Int) d1=_;unfold gU;rw[G,N];rfl
  ·intro x T;rw[A x (by omega)];unfold upd;rw[VN (by omega),VN (by omega)]
  ·intro j q u;cases j with
   |zero=>
    simp at u;subst u;rw[show i+0=i from rfl,A _ (by omega),A _ (by omega)];unfold upd;rw[VN (by omega),VX rfl,VX rfl];exact⟨⟨_,rfl⟩,rfl⟩
   |succ j=>
    simp at u;have:=Q j q u;rw[show i+(j+1)=i+1+j by omega];exact this
end Go.XX
namespace Go.XX
open Go.Pl
open Go Go.Sw Go.Mo
variable {m k n:Nat}{d:lP}{f:Nat->aR}
theorem LK{f g:Nat->aR}{x:Nat}(l:OV)(h:f x=g x):It f l x=It g l x:=by
 unfold It
 induction l generalizing f g with
 |nil=>exact h
 |cons p l u=>
  rw[O7,O7];apply u;unfold upd;rw[h]
def Cy(l:Mq):OV:=l.map (fun p=>(p.1.toNat,p.2))
theorem Hc(v:Nat):(kG v).length=4:=rfl
theorem CO(h:Vw m d f 0)(hm:m=3*n+5)(gm:1<=n)(hn:n<=32)(XD:Mq){a b:Nat}(hl:XD.length<=n)(hp:∀p∈XD,0<=p.1/\p.1<n)(ha:a<=2147483647)(hb:b<=2147483647):
  ∃d' f',cU (n:Int) d XD (a:Int) (b:Int)=some (none,(n:Int),d')/\Vw m d' f' 0/\(∀x,x<=n->f' x=It f (Cy (XD++[((n:Int),kG a++kG b)])) x)/\f' (n+1)=QO 0:=by
 have L:XD.any (pU n)=false:=by
  rw[aEl];intro p u;have:=hp p u;unfold pU;simp;omega
 generalize hv:XD++[((n:Int),kG a++kG b)]=ZD;have F:ZD.length=XD.length+1:=by rw[<-hv];simp
 have G:∀p∈ZD,0<=p.1/\p.1<=n:=by
  intro p u;rw[<-hv] at u;rcases J6.1 u with u | u
  ·have:=hp p u;omega
  ·simp at u;subst u;exact⟨by simp,by simp⟩
 have M:ar .add .i64 (n:Int) (2:Int)=((n+2:Nat):Int):=by rw[YZ (by omega)];push_cast;rfl
 obtain⟨d1,s1,I⟩:=h.R8 (n:Int) (a:=((n+2:Nat):Int)) (b:=kG ZD.length++List.replicate 4 (0:Int)) (by omega) (by omega) (by omega);rw[j5] at I;obtain⟨d2,g2,r2,w2,K,ab⟩:=LJ hm hn ZD 0 d1 _ _ I G (by omega) (by omega);obtain⟨d3,s3,v3⟩:=w2.fq (n:Int);obtain⟨d4,s4,v4⟩:=v3.zj (n:=n) (by omega) 1 (by omega);have B:(Cy ZD).length=ZD.length:=by unfold Cy;simp
 have N:Laid n (upd g2 (n+1) (QO 1)) (Cy ZD):=by
  constructor
  ·refine⟨List.replicate 4 (0:Int),?_⟩;unfold upd;rw[VN (by omega),K _ (by omega)];unfold upd;rw[VX rfl,B]
  ·intro i p A;unfold Cy at A;rw[iy] at A;cases u:ZD[i]? with
   |none=>rw[u] at A;cases A
   |some q=>
    rw[u] at A;obtain rfl:=sM A;have:=ab i q u;rw[ym] at this;unfold upd;rw[VN (by omega),VN (by omega)];exact this
 have O:∀p∈Cy ZD,p.1<=n:=by
  intro p u;unfold Cy at u;obtain⟨q,ac,rfl⟩:=ah.1 u;have:=G q ac;show q.1.toNat<=n;omega
 obtain⟨d5,s5,v5⟩:=v4.aGh N hm (by rw[B];omega) O (by rw[B];omega);obtain⟨d6,s6,v6⟩:=v5.fq (n:Int);obtain⟨d7,s7,v7⟩:=v6.zj (n:=n) (by omega) 0 (by omega);refine⟨d7,_,?_,v7,?_,by unfold upd;rw[VX rfl]⟩
 ·unfold cU;rw[cg,cl,cg];rw[ZL (show¬((XD.length:Int)>n) by omega),pF];rw[ZL (show¬(min (a:Int) (b:Int)<0) by omega),pF];rw[ZL (show¬(max (a:Int) (b:Int)>2147483647) by omega),pF];rw[Rx XD d (by omega),L,cM,cM,pF,ZT,ZT,cM,cM];have P:bV XD=some XD:=by unfold bV;rw[UQ _ _ (by simp;omega)];rfl
  have Q:Sw.R6 (kG a++List.replicate 4 (0:Int)) (0:Int) (4:Int) (4:Int)=some (kG a):=by unfold Sw.R6 Sw.sub kG;simp
  have R:Sw.sub (kG b++List.replicate 4 (0:Int)) (0:Int) (4:Int)=some (kG b):=by unfold Sw.sub kG;simp
  have S:Sw.app (kG a) (kG b)=some (kG a++kG b):=UQ _ _ (by rw[Hc,Hc];decide);have T:Sw.m7 8 (kG a++kG b)=some (kG a++kG b):=by unfold Sw.m7 kG;simp
  have U:Sw.app XD [((n:Int),kG a++kG b)]=some ZD:=by rw[UQ _ _ (by simp;omega),hv]
  simp only[P,Q,R,S,T,U,cM];have V:ko iF (n:Int) (((.inl ((),((),ZD)):aE)::Bf 0 ZD)++([(.inr (.inr (.inr (.inl ((),())))):aE),(.inr (.inr (.inr (.inr (.inl ((),()))))):aE),(.inr (.inr (.inr (.inr (.inr (.inl ((),())))))):aE),(.inr (.inr (.inr (.inr (.inr (.inr (.inl ((),()))))))):aE),(.inr (.inr (.inr (.inr (.inr (.inr (.inr ((),()))))))):aE)]:(List aE))) d d7:=by
   refine ko.append (d1:=d2) (.cons (d1:=d1) ?_ r2) (.cons s3 (.cons (d1:=d4) ?_ (.cons s5 (.cons s6 (.cons (d1:=d7) ?_ .nil)))))
   ·show gS ZD (n:Int) d=_;unfold gS;rw[ZT,cM,M,s1];rfl
   ·show gV (n:Int) d3=_;unfold gV;rw[s4];rfl
   ·show gW (n:Int) d6=_;unfold gW;rw[s7];rfl
  obtain⟨acc,e,rfl⟩:=Xq (step:=fun (z:Int×(List aE))=>
    bif (cm .lss z.1 (ZD.length:Int)) then
     (Sw.idx ZD z.1).bind fun H=>
      (Sw.app z.2 ([(.inr (.inl ((),((),(z.1,H)))):aE),(.inr (.inr (.inl ((),((),(z.1,H))))):aE)]:(List aE))).bind fun X=>
       some (Step.next ((ar .add .i64 z.1 (1:Int)),X))
    else
     some (Step.done (Ex.VP (β:=LI) z.2))) (k:=fun (aa:(List aE))=>
    (Sw.app aa ([(.inr (.inr (.inr (.inl ((),())))):aE),(.inr (.inr (.inr (.inr (.inl ((),()))))):aE),(.inr (.inr (.inr (.inr (.inr (.inl ((),())))))):aE),(.inr (.inr (.inr (.inr (.inr (.inr (.inl ((),()))))))):aE),(.inr (.inr (.inr (.inr (.inr (.inr (.inr ((),()))))))):aE)]:(List aE))).bind fun tr=>
     (eI tr (n:Int) d).bind fun C=>
      some (C.1,C.2.1,C.2.2)) (l:=ZD) (fun i acc=>((i:Int),acc)) (fun D acc=>acc=(.inl ((),((),ZD)):aE)::Bf 0 D) (fun acc=>acc) [(.inl ((),((),ZD)):aE)] (Hb (n:=1000) (by omega) (by decide)) rfl (by
    rintro D x ad acc E rfl;have WJ:D.length<=1000:=by rw[E] at F;simp at F;omega
    refine⟨_,?_,rfl⟩;simp only[kV E,WR,kA E,cM];rw[UQ _ _ (by simp[Ft];omega),cM,l5 (by omega),Ui];rw[ym]
    rfl) (by
    rintro acc rfl
    simp only[dQ,pF])
  refine e.trans ?_;rw[UQ _ _ (by simp[Ft];omega),cM];unfold eI;rw[AG V (by simp[Ft];omega)];rfl
 ·intro x hx;unfold upd;rw[VN (by omega)];apply LK;rw[VN (by omega),K x (by omega)];unfold upd;rw[VN (by omega)]
end Go.XX
namespace Go.XX
open Go.Pl
open Go Go.Sw Go.Mo
def oC(d:lP)(blocks:List aR)(a b:Nat):Prop:=
 ∃f,Vw (3*blocks.length+5) d f 0/\(∀x y,blocks[x]? =some y->f x=y)/\f blocks.length=kG a++kG b/\f (blocks.length+1)=QO 0
variable {d:lP}{blocks:List aR}{a b:Nat}
theorem OW(h:oC d blocks a b){x:Nat}{y:aR}(hx:blocks[x]? =some y):jZ ((blocks.length:Int),d) (x:Int)=some (y,none):=by
 obtain⟨f,v,u,_,_⟩:=h;have z:x<blocks.length:=(yp.1 hx).1;unfold jZ;rw[cl,ZL (show¬((x:Int)<0) by omega),G7,ZL (show¬((x:Int)>=(blocks.length:Int)) by omega)];show (iN d (x:Int)).bind _=_;rw[v.read (by omega) (by omega),j5,u x y hx];rfl
theorem xG(h:oC d blocks a b):fZ ((blocks.length:Int),d)=some (blocks,none):=by
 have B:3*blocks.length+5<=200:=by obtain⟨f,v,_⟩:=h;exact v.B8.2
 unfold fZ
 obtain⟨acc,e,rfl⟩:=Xq (step:=fun (u:Int×(List aR))=>
  bif (cm .lss u.1 (blocks.length:Int)) then
   (jZ ((blocks.length:Int),d) u.1).bind fun z=>
    bif (Option.isSome z.2) then
     some (Step.done (Ex.ret (([]:(List aR)),z.2)))
    else
     (Sw.app u.2 ([z.1]:(List aR))).bind fun E=>
      some (Step.next ((ar .add .i64 u.1 (1:Int)),E))
  else
   some (Step.done (Ex.VP u.2))) (k:=fun (F:(List aR))=>some (F,(none:Option Int))) (l:=blocks) (fun i acc=>((i:Int),acc)) (fun C acc=>acc=C) (fun acc=>acc) [] (Hb (n:=1000) (by omega) (by decide)) rfl (by
   rintro C x H acc A rfl;have G:acc.length<=1000:=by rw[A] at B;simp at B;omega
   refine⟨_,?_,rfl⟩;have D:=OW h (x:=acc.length) (y:=x) (by rw[A];simp);simp only[kV A,WR,D,cM,ZI,pF]
   rw[UQ _ _ (by simp;omega),cM,l5 (by omega)]) (by
   rintro acc rfl
   simp only[dQ,pF])
 exact e
theorem Xs(h:oC d blocks a b)(ha:a<=2147483647)(hb:b<=2147483647):fS ((blocks.length:Int),d)=some ((a:Int),(b:Int),none):=by
 obtain⟨f,v,_,C,_⟩:=h;unfold fS;show (iN d (blocks.length:Int)).bind _=_;rw[v.read (by omega) (by omega),j5,C];have u:Sw.R6 (kG a++kG b) (4:Int) (8:Int) (8:Int)=some (kG b):=by unfold Sw.R6 Sw.sub kG;simp
 have z:Sw.sub (kG a++kG b) (0:Int) (4:Int)=some (kG a):=by unfold Sw.sub kG;simp
 have A:Sw.app (kG b) (kG a)=some (kG b++kG a):=UQ _ _ (by rw[Hc,Hc];decide);have B:Sw.m7 8 (kG b++kG a)=some (kG b++kG a):=by unfold Sw.m7 kG;simp
 simp only[cM,ZI,pF,Ef ha,Ef hb,u,z,A,B]
end Go.XX
namespace Go.XX
open Go.Pl
open Go Go.Sw Go.Mo
def Uj(n:Nat)(XD:Mq)(a b:Int):Int:=if XD.length>n then 2 else if a<0\/a>2147483647\/b<0\/b>2147483647 then 1 else if XD.any (pU n) then 1 else 0
def sD(blocks:List aR)(XD:Mq):List aR:=XD.foldl (fun acc p=>acc.set p.1.toNat p.2) blocks
theorem Bg(XD:Mq):∀blocks:List aR,(sD blocks XD).length=blocks.length:=by
 induction XD with
 |nil=>intro b;rfl
 |cons p l h=>intro b;unfold sD at*;rw[O7,h];simp
theorem Xt(XD:Mq):∀(blocks:List aR) (f:Nat->aR),(∀p∈XD,0<=p.1/\p.1<(blocks.length:Int))->(∀x y,blocks[x]? =some y->f x=y)->∀x y,(sD blocks XD)[x]? =some y->It f (Cy XD) x=y:=by
 induction XD with
 |nil=>intro b f _ h;exact h
 |cons p l B=>
  intro b f z h;have C:=z p X5;unfold sD Cy It at*;rw[O7,D9,O7];refine B _ _ (fun q A=>by rw[aCu];exact z q (X4 _ A)) ?_;intro x y u;unfold upd;by_cases e:x=p.1.toNat
  ·subst e;rw[aB2 (by omega)] at u;rw[VX rfl];exact sM u
  ·rw[tc (by omega)] at u;rw[VN e];exact h x y u
variable {d:lP}{blocks:List aR}{a b:Nat}
theorem yK(h:oC d blocks a b)(h0:1<=blocks.length)(h1:blocks.length<=32)(XD:Mq)(x y:Int)(hc:Uj blocks.length XD x y=0):
  ∃(d':lP) (x' y':Nat),x=(x':Int)/\y=(y':Int)/\x'<=2147483647/\y'<=2147483647/\(∀p∈XD,0<=p.1/\p.1<(blocks.length:Int))/\
   cU (blocks.length:Int) d XD x y=some (none,(blocks.length:Int),d')/\oC d' (sD blocks XD) x' y':=by
 unfold Uj at hc;split at hc
 ·cases hc
 rename_i L;split at hc
 ·cases hc
 rename_i M;split at hc
 ·cases hc
 rename_i D;have u:∀p∈XD,0<=p.1/\p.1<(blocks.length:Int):=by
  intro p u;have A:¬pU blocks.length p=true:=fun E=>D (aDc.2 ⟨p,u,E⟩);unfold pU at A;simp at A;omega
 obtain⟨x',rfl⟩:∃x':Nat,x=(x':Int):=⟨x.toNat,by omega⟩;obtain⟨y',rfl⟩:∃y':Nat,y=(y':Int):=⟨y.toNat,by omega⟩;obtain⟨f,v,F,N,O⟩:=h;obtain⟨d',G,e,H,C,I⟩:=CO v rfl h0 h1 XD (a:=x') (b:=y') (by omega) u (by omega) (by omega);refine⟨d',x',y',rfl,rfl,by omega,by omega,u,e,G,by rw[Bg];exact H,?_,?_,by rw[Bg];exact I⟩
 ·intro i z B;have K:i<blocks.length:=by have:=(yp.1 B).1;rwa [Bg] at this
  rw[C i (by omega)];unfold Cy;rw[aCt,D9,aD0,Iu];unfold upd;rw[VN (by simp;omega)];exact Xt XD blocks f u F i z B
 ·rw[Bg,C _ (XZ _)];unfold Cy;rw[aCt,D9,aD0,Iu];unfold upd;rw[VX (by simp)]
end Go.XX
namespace Go.XX
open Go.Pl
open Go Go.Sw Go.Mo
theorem AI{n:Nat}(h0:1<=n)(h1:n<=32):rI (n:Int)=some (((3*n+5:Nat):Int),none):=by
 unfold rI;rw[cl,cg,ZL (show¬((n:Int)<1) by omega),ZL (show¬((n:Int)>32) by omega)];have h:ar .add .i64 (n:Int) (1:Int)=((n+1:Nat):Int):=l5 (by omega);have u:ar .mul .i64 (2:Int) ((n+1:Nat):Int)=((2*(n+1):Nat):Int):=by rw[show (2:Int)=((2:Nat):Int) from rfl,Ha (by omega)]
 have z:ar .add .i64 ((n+1:Nat):Int) (2:Int)=((n+1+2:Nat):Int):=by rw[YZ (by omega)];push_cast;rfl
 have A:ar .add .i64 ((n+1+2:Nat):Int) ((2*(n+1):Nat):Int)=((3*n+5:Nat):Int):=by rw[YZ (by omega)];push_cast;omega
 rw[h,u,z,A];rfl
theorem RH{α:Type}(n:Nat)(z:α)(h:n<=1000):Sw.mk (n:Int) z=some (List.replicate n z):=by
 unfold Sw.mk;rw[VX (by omega)];simp
def fresh(n:Nat):lP:=(List.replicate (3*n+5) aU,[],-1)
theorem CP{n:Nat}(h0:1<=n)(h1:n<=32):qT (n:Int)=some (fresh n,none):=by
 unfold qT;rw[AI h0 h1,cM];show (xF ((3*n+5:Nat):Int)).bind _=_;unfold xF;rw[cl,cg,ZL (show¬(((3*n+5:Nat):Int)<1) by omega),ZL (show¬(((3*n+5:Nat):Int)>200) by omega),RH _ _ (by omega)];rfl
theorem Vw.none{m:Nat}{d:lP}{f:Nat->aR}(h:Vw m d f 0):d=(d.1,[],-1):=by
 have u:d.2.1=[]:=eu (by have:=h.sr;omega);have A:=h.left;obtain⟨x,y,z⟩:=d;simp only at u A;subst u;subst A;rfl
theorem Py{d:lP}{blocks:List aR}{a b:Nat}(h:oC d blocks a b)(h0:1<=blocks.length)(h1:blocks.length<=32):mQ d (blocks.length:Int)=some (some ((blocks.length:Int),d),none):=by
 obtain⟨f,v,_,_,E⟩:=h;have u:=v.none;have z:=v.len;unfold mQ;rw[AI h0 h1,cM];simp only[ZI,pF];rw[wM,cM,VX v.err,cn,cg];have A:d.2.1.length=0:=by rw[u];rfl
 rw[z,A,ZL (fun h=>h rfl)];simp only[ZI,pF];rw[show decide (((0:Nat):Int)>0)=false from rfl,cM,pF];have B:aO d.1=some d.1:=by unfold aO;rw[UQ _ _ (by simp;omega)];rfl
 rw[B,cM];have C:(d.1,([]:List (Int×aR)),d.2.2)=d:=by rw[v.left];exact u.symm
 rw[C];have D:iP (blocks.length:Int) d=some (none,(blocks.length:Int),d):=by
  unfold iP;rw[l5 (by omega),v.read (by omega) (by omega),j5,E];rfl
 rw[D];rfl
theorem LL{d:lP}{blocks:List aR}{a b:Nat}(h:oC d blocks a b):lO ((blocks.length:Int),d)=some d:=by
 obtain⟨f,v,_⟩:=h;have u:=v.B8;have z:=v.len;have A:=v.sr;unfold lO aO bV;rw[UQ _ _ (by simp;omega),UQ _ _ (by simp;omega)];rfl
theorem Mr{n:Nat}(h1:n<=32):oC (fresh n) (List.replicate n aU) 0 0:=by
 refine⟨fun _=>aU,?_,?_,rfl,rfl⟩
 ·rw[mw];refine⟨by unfold fresh;simp,by omega,rfl,XZ _,by decide,fun p u=>by simp[fresh] at u,fun a z=>?_⟩;unfold fresh;show Ew (a:Int) [] ((List.replicate (3*n+5) aU).getD a [])=aU;rw[zQ];show (List.replicate (3*n+5) aU).getD a []=aU;simp[R2,z]
 ·intro x y h;rw[aDu] at h;split at h
  ·exact sM h
  ·cases h
end Go.XX
namespace Go.ZZ
open Go.Pl
open Go Go.Sw Go.Mo
abbrev pL:=Int×aR
abbrev Ep:=Int×List pL
abbrev Bd:=Int×List pL×List Ep×Bool
def XV(n:Int):Int->List pL->Bool
 |_,[]=>true
 |last,x::l=>if x.1<=last\/x.1>=n then false else XV n x.1 l
def LM(n:Int)(last:Int)(x:pL):Step Int (Ex Unit Bool):=if x.1<=last\/x.1>=n then .done (.ret false) else .next x.1
theorem AJ(n:Int):∀(l:List pL) (last:Int),yJ (LM n) (fun _=> .VP ()) last l=bif XV n last l then .VP () else .ret false
 | [],_=>rfl
 |x::l,last=>by
  simp only[yJ,LM,XV];by_cases h:x.1<=last\/x.1>=n
  ·simp only[VX h,pF]
  ·simp only[VN h];exact AJ n l x.1
theorem Pz(l:List pL)(n:Int)(hl:l.length<=1000000):lL l n=some (XV n (-1) l):=by
 unfold lL;rw[show ((-1:Int),(0:Int))=(fun (i:Nat) (a:Int)=>(a,(i:Int))) 0 (-1) from rfl];rw[Kx (l:=l) (fun (i:Nat) (a:Int)=>(a,(i:Int))) (fun _ _=>True) (LM n) (fun _=> .VP ()) (-1) (Hb hl (by decide)) trivial]
 ·rw[AJ];cases XV n (-1) l<;>rfl
 ·intro A x B acc h _;refine⟨?_,fun _ _=>trivial⟩;simp only[kV h,WR,kA h,cM,ye,G7,NT,l5 (show A.length<=4611686018427387904 by rw[h] at hl;simp at hl;omega),LM];by_cases u:x.1<=acc
  ·simp[u,Ie]
  ·by_cases z:x.1>=n
   ·simp[u,z,Ie]
   ·simp[u,z,Ie]
 ·intro acc _;simp only[dQ,pF]
def Fu(n base:Int):Int->List Ep->Bool
 |_,[]=>true
 |i,e::l=>if XV n (-1) e.2=true/\e.1=base+i then Fu n base (i+1) l else false
def uB(b:Bd)(n:Int):Int:=
 if n<1\/n>32\/b.1<0\/b.1>2147483647 then 1 else if b.2.2.1.length>4 then 2
 else if XV n (-1) b.2.1=true/\¬(b.2.2.2=true/\b.2.2.1.length>0)/\(b.2.2.1.length:Int)<=b.1/\Fu n (b.1 - b.2.2.1.length+1) 0 b.2.2.1=true then 0 else 3
structure Sm (b:Bd):Prop where
 op:b.2.1.length<=1000000
 se:b.2.2.1.length<=1000000
 ep:∀e∈b.2.2.1,e.2.length<=1000000
theorem zR{A:Type}{l pre rest:List A}{x:A}(h:l=pre++x::rest):x∈l:=by rw[h];simp
end Go.ZZ
namespace Go.ZZ
open Go.Pl
open Go Go.Sw Go.Mo
def opt(n:Int):Option Int:=if n=0 then none else some n
def KC(n base:Int):Int->List Ep->Bool
 |_,[]=>true
 |i,e::l=>if XV n (-1) e.2=true/\e.1=base+i/\1<=e.1 then KC n base (i+1) l else false
def RI(n base:Int)(i:Int)(e:Ep):Step Int (Ex Unit (Option Int)):=if XV n (-1) e.2=true/\e.1=base+i/\1<=e.1 then .next (i+1) else .done (.ret (some 3))
theorem GW(n base:Int):∀(l:List Ep) (i:Int),yJ (RI n base) (fun _=> .VP ()) i l=bif KC n base i l then .VP () else .ret (some 3)
 | [],_=>rfl
 |e::l,i=>by
  simp only[yJ,RI,KC];by_cases h:XV n (-1) e.2=true/\e.1=base+i/\1<=e.1
  ·simp only[VX h];exact GW n base l (i+1)
  ·simp only[VN h,pF]
theorem GX(n base:Int)(h:1<=base):∀(l:List Ep) (i:Int),0<=i->KC n base i l=Fu n base i l
 | [],_,_=>rfl
 |e::l,i,A=>by
  simp only[KC,Fu];by_cases u:XV n (-1) e.2=true/\e.1=base+i
  ·rw[VX u,VX ⟨u.1,u.2,by omega⟩];exact GX n base h l (i+1) (by omega)
  ·rw[VN u,VN fun z=>u ⟨z.1,z.2.1⟩]
theorem YX(b:Bd)(n:Int)(hb:Sm b):kZ b n=some (opt (uB b n)):=by
 have H:=hb.se
 have Q:∀V:0<=b.1/\b.1<=2147483647,lp (β:=Unit) (fun (F:Int)=>
          bif (cm .lss F (b.2.2.1.length:Int)) then
           (Sw.idx b.2.2.1 F).bind fun N=>
            ((lL N.2 n).bind fun aa=>
             bif (!aa) then
              some true
             else
              bif (cm .neq N.1 (ar .add .i64 (ar .add .i64 (ar .sub .i64 b.1 (b.2.2.1.length:Int)) (1:Int)) F)) then
               some true
              else
               some (cm .lss N.1 (1:Int))).bind fun ab=>
             bif ab then
              some (.done (.ret (some (3:Int))))
             else
              some (.next (ar .add .i64 F (1:Int)))
          else
           some (.done (.VP ()))
          ) (0:Int) (fun (_:Unit)=>
         some (none:Option Int))=some (bif KC n (b.1 - b.2.2.1.length+1) 0 b.2.2.1 then none else some 3):=by
  intro V;show lp _ ((fun (i:Nat) (_:Int)=>(i:Int)) 0 0) _=_;rw[Kx (l:=b.2.2.1) (fun (i:Nat) (_:Int)=>(i:Int)) (fun B a=>a=(B.length:Int)) (RI n (b.1 - b.2.2.1.length+1)) (fun _=> .VP ()) 0 (Hb H (by decide)) rfl]
  ·rw[GW];cases KC n (b.1 - b.2.2.1.length+1) 0 b.2.2.1<;>rfl
  ·intro B x ac acc h X;subst X;have hp:B.length<=1000000:=by rw[h] at H;simp at H;omega
   refine⟨?_,fun WS G=>?_⟩
   ·simp only[kV h,WR,kA h,cM,Pz x.2 n (hb.ep x (zR h)),NT,l5 (show B.length<=4611686018427387904 by omega),RI,cn,cl];rw[M9 (by omega),YZ (m:=b.1 - (b.2.2.1.length:Int)) (by omega),YZ (by omega)];cases hr:XV n (-1) x.2 with
    |false=>simp[Ie]
    |true=>
     by_cases C:x.1=b.1 - (b.2.2.1.length:Int)+1+(B.length:Int)
     ·by_cases I:x.1<1
      ·have K:¬(1<=x.1):=by omega
       simp[<-C,I,K,Ie]
      ·have K:1<=x.1:=by omega
       simp[<-C,I,K,Ie]
     ·simp[C,Ie]
   ·simp only[RI] at G;split at G
    ·cases G;simp
    ·cases G
  ·intro acc _;simp only[dQ,pF]
 unfold kZ;simp only[Pz b.2.1 n hb.op,cM];simp only[cl,cg,NT,uB,aC2,opt];by_cases u:n<1
 ·simp[u]
 by_cases z:n>32
 ·simp[u,z]
 by_cases D:b.1<0
 ·simp[u,z,D]
 by_cases L:b.1>2147483647
 ·simp[u,z,D,L]
 have O:=Q ⟨by omega,by omega⟩;simp only[cl,NT,aC2] at O;by_cases P:(b.2.2.1.length:Int)>4
 ·have M:b.2.2.1.length>4:=by omega
  simp[u,z,D,L,P,M]
 have M:¬(b.2.2.1.length>4):=by omega
 simp only[u,z,D,L,P,M,ZN,cM,y6,O5,aEy];cases hr:XV n (-1) b.2.1 with
 |false=>simp
 |true=>
  simp only[iz,O5,ZN];have R:(b.2.2.1.length:Int)<=b.1->KC n (b.1 - b.2.2.1.length+1) 0 b.2.2.1=Fu n (b.1 - b.2.2.1.length+1) 0 b.2.2.1:=fun h=>GX n _ (by omega) _ 0 (by omega);have S:¬((b.2.2.1.length:Int)<=b.1)->KC n (b.1 - b.2.2.1.length+1) 0 b.2.2.1=false:=fun h=>by
   cases O2:b.2.2.1 with
   |nil=>rw[O2] at h;simp at h;omega
   |cons e l=>
    simp only[KC];rw[VN];rintro⟨_,C,I⟩;rw[O2] at h;omega
  by_cases A:b.2.2.2=true/\b.2.2.1.length>0
  ·have T:(b.2.2.1.length:Int)>0:=by omega
   simp[A.1,A.2,T]
  ·have U:(if b.2.2.2=true then some (decide ((b.2.2.1.length:Int)>0)) else some false:Option Bool)=some false:=by
    cases hbh:b.2.2.2 with
    |false=>simp
    |true=>simp[hbh] at A;simp[A]
   simp only[U,cM,O5,ZN,O];by_cases E:(b.2.2.1.length:Int)<=b.1
   ·rw[R E];cases Fu n (b.1 - b.2.2.1.length+1) 0 b.2.2.1<;>simp[E,A]
   ·rw[S E];simp[E]
theorem j2(b:Bd)(hb:Sm b):nD b=some b:=by
 have B:=hb.op;have u:=hb.se;unfold nD gL;have z:∀l:List pL,l.length<=1000000->bV l=some l:=fun l h=>by
  unfold bV;rw[UQ [] l (by simp;omega)];rfl
 rw[z _ B,UQ [] b.2.2.1 (by simp;omega)];simp only[cM,X3];show lp _ ((fun (i:Nat) (_:Unit)=>((i:Int),b.2.2.1)) 0 ()) _=_;rw[Kx (l:=b.2.2.1) (fun (i:Nat) (_:Unit)=>((i:Int),b.2.2.1)) (fun _ _=>True) (fun _ _=> .next ()) (fun _=> .VP b.2.2.1) () (Hb u (by decide)) trivial]
 ·have:∀l:List Ep,yJ (D:=Ex (List Ep) Bd) (fun (_:Unit) (_:Ep)=>Step.next ()) (fun _=> .VP b.2.2.1) () l= .VP b.2.2.1:=by
   intro l;induction l with
   |nil=>rfl
   |cons x l C=>exact C
  rw[this];rfl
 ·intro A x F acc h _;have E:A.length<=1000000:=by rw[h] at u;simp at u;omega
  refine⟨?_,fun _ _=>trivial⟩;simp only[kV h,WR,kA h,cM,z _ (hb.ep x (zR h)),l5 (show A.length<=4611686018427387904 by omega),Ie,j5];rw[h];simp
 ·intro acc _;simp only[dQ,pF]
theorem Eg(n a:Int):∀(l:List pL) (last:Int),XV n last l=true->∃L1 L2,l=L1++L2/\(∀x∈L1,x.1<a)/\(∀x∈L2,a<=x.1)/\(L2.filter fun x=>x.1≠a)=(match L2 with | []=>[] | y::r=>if y.1=a then r else L2)
 | [],_,_=>⟨[],[],rfl,by simp,by simp,rfl⟩
 |x::l,last,h=>by
  simp only[XV] at h;split at h
  ·cases h
  ·by_cases C:x.1<a
   ·obtain⟨L1,L2,rfl,F,G,H⟩:=Eg n a l x.1 h;exact⟨x::L1,L2,rfl,fun y u=>by rcases j4.1 u with rfl | u;exact C;exact F y u,G,H⟩
   ·have D:∀(l:List pL) (last:Int),XV n last l=true->∀y∈l,last<y.1:=by
     intro l
     induction l with
     |nil=>intro _ _ y u;simp at u
     |cons z l I=>
      intro last h y u;simp only[XV] at h;split at h
      ·cases h
      ·rename_i K;rcases j4.1 u with rfl | u
       ·omega
       ·have:=I z.1 h y u;omega
    have A:=D l x.1 h;refine⟨[],x::l,rfl,by simp,fun y u=>by rcases j4.1 u with rfl | u;omega;have:=A y u;omega,?_⟩;have E:(l.filter fun y=>decide (y.1≠a))=l:=aC9.2 fun y u=>by have:=A y u;simp;omega
    simp only[aD3,E];by_cases B:x.1=a
    ·simp[B]
    ·simp[B]
theorem YA(n:Int):∀(l:List pL) (last:Int),XV n last l=true->∀x∈l,last<x.1/\x.1<n
 | [],_,_,x,u=>by simp at u
 |y::l,last,h,x,u=>by
  simp only[XV] at h;split at h
  ·cases h
  ·rename_i z;rcases j4.1 u with rfl | u
   ·omega
   ·have:=YA n l y.1 h x u;omega
theorem Xu(L1 L2:List pL)(a:Int)(h1:∀x∈L1,x.1<a)(h2:∀x∈L2,a<=x.1)(hl:(L1++L2).length<=1000000)(hr:∀x∈L1++L2,-1000000000<=x.1/\x.1<=1000000000)(hab: -1000000000<=a/\a<=1000000000):
  cA (L1++L2) a=some ((L1.length:Int),match L2 with | []=>false | y::_=>decide (y.1=a)):=by
 obtain⟨l,B⟩:∃l,l=L1++L2:=⟨_,rfl⟩;rw[<-B] at hl hr ⊢;unfold cA sK;have F:l.length=L1.length+L2.length:=by rw[B,pT]
 have G:∀x∈l,ar .sub .i64 x.1 a=x.1 - a:=fun x C=>M9 (by have:=hr x C;omega)
 obtain⟨y,rfl,Q⟩:=LF (k:=fun (E:Int)=>
 (bif (cm .lss E (l.length:Int)) then
  (Sw.idx l E).bind fun L=>
   (some (ar .sub .i64 L.1 a)).bind fun M=>
    some (cm .eql M (0:Int))
 else
  some false).bind fun N=>
  some (E,N)) (step:=fun (u:Int×Int)=>
  bif (cm .lss u.1 u.2) then
   (Sw.idx l (IntKind.wrap .i64 (sh .shr .u64 (IntKind.wrap .u64 (ar .add .i64 u.1 u.2)) (1:Int)))).bind fun O=>
    (some (ar .sub .i64 O.1 a)).bind fun P=>
     bif (cm .lss P (0:Int)) then
      some (.next ((ar .add .i64 (IntKind.wrap .i64 (sh .shr .u64 (IntKind.wrap .u64 (ar .add .i64 u.1 u.2)) (1:Int))) (1:Int)),u.2))
     else
      some (.next (u.1,(IntKind.wrap .i64 (sh .shr .u64 (IntKind.wrap .u64 (ar .add .i64 u.1 u.2)) (1:Int)))))
  else
   some (.done (.VP u.1))) (fun s=>∃i j:Nat,s=((i:Int),(j:Int))/\i<=L1.length/\L1.length<=j/\j<=l.length) (fun s=>(s.2 - s.1).toNat) (fun y=>y=(L1.length:Int)) ((0:Int),(l.length:Int)) (by unfold fI;simp;omega) ⟨0,l.length,rfl,by omega,by omega,by omega⟩ (by
   rintro s ⟨i,j,rfl,T,U,V⟩;simp only[cl,NT,aC2];by_cases X:i<j
   ·left;have D:(i:Int)<(j:Int):=by omega
    rw[VX D,TZ (by omega)];obtain⟨h,R⟩:∃h,h=(i+j) / 2:=⟨_,rfl⟩;rw[<-R];have aa:h<j:=by omega
    have ab:i<=h:=by omega
    obtain⟨x,S,A⟩:=wL (l:=l) (n:=(h:Int)) (by omega) (by omega);simp only[j5] at A;have H:x∈l:=yw A;simp only[S,cM,G x H];rw[B] at A;by_cases C:x.1 - a<0
    ·rw[VX C];have z:h<L1.length:=by
      rcases J0 h L1.length with z | z
      ·exact z
      ·rw[aDo z] at A;have:=h2 x (yw A);omega
     refine⟨_,rfl,⟨h+1,j,?_,by omega,U,V⟩,?_⟩
     ·rw[l5 (by omega)]
     ·simp only[l5 (show h<=4611686018427387904 by omega)];omega
    ·rw[VN C];have z:L1.length<=h:=by
      rcases J0 h L1.length with z | z
      ·rw[aBw z] at A;have:=h1 x (yw A);omega
      ·exact z
     exact⟨_,rfl,⟨i,h,rfl,T,z,by omega⟩,by simp only;omega⟩
   ·right;have D:¬((i:Int)<(j:Int)):=by omega
    rw[VN D]
    exact⟨_,rfl,by omega⟩)
 rw[Q];simp only[cl,ce,NT,aC2];cases L2 with
 |nil=>
  have:¬((L1.length:Int)<(l.length:Int)):=by simp at F;omega
  rw[VN this];rfl
 |cons y L2=>
  have I:(L1.length:Int)<(l.length:Int):=by simp at F;omega
  rw[VX I,kA B];have K:=G y (by rw[B];simp);simp only[cM,K];congr 3;by_cases h:y.1=a
  ·simp[h]
  ·have:¬(y.1 - a=0):=by omega
   simp[h,this]
def N1(l:List pL)(p:pL):List pL:=(l.takeWhile fun x=>x.1<p.1)++p::(l.dropWhile fun x=>x.1<p.1).filter fun x=>x.1≠p.1
theorem Fv{L1 L2:List pL}{p:pL}(h1:∀x∈L1,x.1<p.1)(h2:∀x∈L2,p.1<=x.1):N1 (L1++L2) p=L1++p::L2.filter fun x=>x.1≠p.1:=by
 unfold N1;have A:∀L1:List pL,(∀x∈L1,x.1<p.1)->(L1++L2).takeWhile (fun x=>decide (x.1<p.1))=L1/\(L1++L2).dropWhile (fun x=>decide (x.1<p.1))=L2:=by
  intro L1
  induction L1 with
  |nil=>
   intro _;cases L2 with
   |nil=>simp
   |cons y L2=>
    have:=h2 y (by simp);have B:¬(y.1<p.1):=by omega
    simp[B]
  |cons x L1 E=>
   intro h;have C:=h x (by simp);obtain⟨u,z⟩:=E fun y D=>h y (by simp[D]);simp[C,u,z]
 obtain⟨u,z⟩:=A L1 h1;rw[u,z]
end Go.ZZ
namespace Go.ZZ
open Go.Pl
open Go Go.Sw Go.Mo
def yL:Bd:=(0,[],[],false)
theorem ZK{b:Bd}{n:Int}(h:uB b n=0):1<=n/\n<=32/\0<=b.1/\b.1<=2147483647/\b.2.2.1.length<=4/\XV n (-1) b.2.1=true/\¬(b.2.2.2=true/\b.2.2.1.length>0)/\(b.2.2.1.length:Int)<=b.1/\Fu n (b.1 - b.2.2.1.length+1) 0 b.2.2.1=true:=by
 unfold uB at h;split at h
 ·cases h
 ·rename_i z;split at h
  ·cases h
  ·rename_i A;split at h
   ·rename_i u;exact⟨by omega,by omega,by omega,by omega,by omega,u.1,u.2.1,u.2.2.1,u.2.2.2⟩
   ·cases h
theorem La{n base:Int}:∀{l:List Ep} {i:Int},Fu n base i l=true->∀e∈l,XV n (-1) e.2=true
 | [],_,_,e,u=>by simp at u
 |x::l,i,h,e,u=>by
  simp only[Fu] at h;split at h
  ·rename_i z;rcases j4.1 u with rfl | u
   ·exact z.1
   ·exact La h e u
  ·cases h
theorem sw(b:Bd)(n:Int)(p:pL)(hb:Sm b):tL b n p=some (if uB b n≠0 then (yL,some (uB b n)) else if p.1<0\/p.1>=n then (yL,some 1) else ((b.1,N1 b.2.1 p,b.2.2.1,b.2.2.2),none)):=by
 unfold tL;simp only[YX b n hb,j2 b hb,cM];by_cases z:uB b n=0
 ·obtain⟨N,O,P,Q,R,E,S,T,U⟩:=ZK z;simp only[opt,z,ZH,ZI,pF,ne_eq,aDi,ZN];by_cases A:p.1<0
  ·simp[cl,A,yL]
  by_cases B:p.1>=n
  ·simp[cl,G7,A,B,yL]
  obtain⟨u,L2,F,G,H,M⟩:=Eg n p.1 b.2.1 _ E;have C:=YA n b.2.1 _ E;have h:=hb.op;rw[F] at C h;have I:=Xu u L2 p.1 G H h (fun x L=>by have:=C x L;omega) (by omega);rw[VN (by omega)];rw[F,I,Fv G H,M];simp only[cl,G7,A,B,y6,pF,cM,jp];cases L2 with
  |nil=>
   simp only[pF,gH,Sw.ins,V2];rw[VX ⟨by omega,by omega,by simp at h ⊢;omega⟩];simp
  |cons y L2=>
   by_cases D:y.1=p.1
   ·have K:(u++y::L2).set u.length p=u++p::L2:=by simp
    simp only[D,Y8,WR,mU,cM,j5,ZH,K]
   ·simp only[D,y6,pF,gH,Sw.ins,ZN];rw[VX ⟨by omega,by simp;omega,by simp at h ⊢;omega⟩];simp
 ·simp[opt,z,yL]
theorem LN(b:Bd)(n:Int)(hb:Sm b):rM b n=some (if uB b n≠0 then (yL,some (uB b n)) else if b.1=2147483647 then (yL,some 2) else
  if b.2.2.2=true then ((b.1+1,[],b.2.2.1,b.2.2.2),none) else if b.2.2.1.length=4 then ((b.1+1,[],[],true),none) else ((b.1+1,[],b.2.2.1++[(b.1+1,b.2.1)],b.2.2.2),none)):=by
 unfold rM;simp only[YX b n hb,j2 b hb,cM];by_cases h:uB b n=0
 ·obtain⟨B,C,D,E,F,G,H,I,K⟩:=ZK h;simp only[opt,h,ZH,ZI,pF,ne_eq,aDi,ZN,ce];by_cases u:b.1=2147483647
  ·simp[u,yL]
  simp only[u,y6,pF,ZN];rw[YZ (by omega)];cases hbh:b.2.2.2 with
  |true=>simp
  |false=>
   by_cases z:b.2.2.1.length=4
   ·simp[z]
   ·have A:¬((b.2.2.1.length:Int)=4):=by omega
    simp only[A,y6,pF,z,ZN,O5];rw[UQ _ _ (by simp;omega)];rfl
 ·simp[opt,h,yL]
theorem CQ(l:List Ep)(num:Int)(hl:l.length<=1000000):bY l num=some (l.filter fun e=>decide (num<e.1)):=by
 have M:cD l num=some (match l.findIdx? (fun e=>decide (e.1<=num)) with | some j=>(j:Int) | none=> -1):=by
  unfold cD;show lp _ ((fun (i:Nat)=>(i:Int)) 0) _=_;rw[Ru (l:=l) (fun (i:Nat)=>(i:Int)) (fun e=>decide (e.1<=num)) (fun j=>(j:Int)) () (Hb hl (by decide))]
  ·cases l.findIdx? (fun e=>decide (e.1<=num))<;>rfl
  ·intro u x rest h;have hp:u.length<=1000000:=by rw[h] at hl;simp at hl;omega
   simp only[kV h,WR,kA h,cM,l5 (show u.length<=4611686018427387904 by omega),oB,ye,NT];by_cases E:x.1<=num<;>simp[E]
  ·simp only[dQ,pF]
 unfold bY;rw[M];simp only[cM];cases hf:l.findIdx? (fun e=>decide (e.1<=num)) with
 |none=>
  have E:=List.findIdx?_eq_none_iff.1 hf;have:l.filter (fun e=>decide (num<e.1))=l:=aC9.2 fun e F=>by have:=E e F;simp at this ⊢;omega
  simp[ce,this]
 |some j=>
  obtain⟨hj,E,h2⟩:=List.findIdx?_eq_some_iff_getElem.1 hf;obtain⟨P,B,R,rfl,aa⟩:∃P B R,l=P++B::R/\P.length=j:=⟨l.take j,l[j],l.drop (j+1),by rw[List.getElem_cons_drop,V3],by rw[A6];omega⟩;subst aa;have ab:B.1<=num:=by simpa using E
  have N:∀e∈P,num<e.1:=by
   intro e F;obtain⟨q,L,rfl⟩:=aEa F;have:=h2 q L;rw[aC6 L] at this;simp at this;omega
  have O:P.filter (fun e=>decide (num<e.1))=P:=aC9.2 fun e F=>by simpa using N e F
  have Q:¬((P.length:Int)= -1):=by omega
  simp only[ce,Q,y6,pF];have bg:P.length<=1000000:=by simp at hl;omega
  rw[l5 (by omega)];show lp _ ((fun (t:Nat) (a:Int×List Ep)=>(a.1,((P.length+1+t:Nat):Int),a.2)) 0 ((P.length:Int),P++B::R)) _=_;refine Cx (l:=R) (fun (t:Nat) (a:Int×List Ep)=>(a.1,((P.length+1+t:Nat):Int),a.2))
   (fun u a=>∃K J:List Ep,K=P++u.filter (fun e=>decide (num<e.1))/\a.1=(K.length:Int)/\a.2=K++J++R.drop u.length/\K.length+J.length=P.length+1+u.length)
   (fun a=>(a.1,a.2)) ((P.length:Int),P++B::R) (by unfold fI;simp at hl;omega) ⟨P,[B],by simp,rfl,by simp,by simp⟩ ?_ ?_ ?_
  ·rintro u x rest ⟨i,xs⟩ h ⟨K,J,C,z,A,D⟩;simp only at z A;subst z A;have ac:R.length=u.length+1+rest.length:=by rw[h];simp;omega
   have G:((P.length+1+u.length:Nat):Int)<((K++J++R.drop u.length).length:Int):=by
    simp only[pT,O8];omega
   have HN:R.drop u.length=x::rest:=by rw[h];simp
   have S:Sw.idx (K++J++R.drop u.length) ((P.length+1+u.length:Nat):Int)=some x:=by
    rw[HN];apply kW;rw[aDo (by rw[pT];omega),pT,D];simp
   have H:R.drop (u++[x]).length=rest:=by rw[h];simp
   simp only[cl,G,Y8,WR,S,cM,oB,ye,NT];rw[l5 (show P.length+1+u.length<=4611686018427387904 by simp at hl;omega)];by_cases I:x.1<=num
   ·refine⟨((K.length:Int),K++J++R.drop u.length),by simp[I];omega,K,J++[x],?_,rfl,?_,?_⟩
    ·rw[C,yv];have:¬(num<x.1):=by omega
     simp[this]
    ·simp only;rw[HN,H];simp
    ·simp;omega
   ·have T:J≠ []:=by
     rintro rfl;have:=aCl (fun e:Ep=>decide (num<e.1)) u;rw[C] at D;simp at D;omega
    cases J with
    |nil=>exact absurd rfl T
    |cons y J=>
     have U:Sw.idx (K++y::J++R.drop u.length) (K.length:Int)=some y:=by
      rw[u9];exact mU K y (J++R.drop u.length)
     rw[l5 (show K.length<=4611686018427387904 by
      have:K.length<=P.length+1+u.length:=by omega
      simp at hl;omega)]
     refine⟨(((K.length+1:Nat):Int),K++x::J++R.drop u.length),?_,K++[x],J++[x],?_,by simp,?_,?_⟩
     ·simp only[I,y6,uf,ZH,U,cM];simp;omega
     ·rw[C,yv];have:num<x.1:=by omega
      simp[this]
     ·simp only;rw[HN,H];simp
     ·simp at D ⊢;omega
  ·rintro⟨i,xs⟩ ⟨K,J,C,z,A,D⟩;simp only at z A;subst z A;have G:¬(((P.length+1+R.length:Nat):Int)<((K++J++R.drop R.length).length:Int)):=by
    simp only[pT,O8];omega
   simp only[cl,G,y6,pF]
  ·rintro⟨i,xs⟩ ⟨K,J,C,z,A,D⟩;simp only at z A;subst z A;have V:R.drop R.length=[]:=List.drop_length;simp only[V,V2];have X:Sw.sub (K++J) (K.length:Int) ((K++J).length:Int)=some J:=by
    rw[Sw.sub,VX (by simp only[pT];omega),j5,j5,aDb,og]
   simp only[X,cM,j5];have e2:List.take K.length (K++J)=K:=by simp
   rw[e2,Sw.sub,VX (by simp only[pT];omega)];simp only[cM,j5,Int.toNat_zero,List.drop_zero,yh,u6];rw[C,yv,O,aD3];have:¬(num<B.1):=by omega
   simp[this]
theorem LO(b:Bd)(n num:Int)(hb:Sm b):pH b n num=some (if uB b n≠0 then (yL,some (uB b n)) else if num<0\/num>b.1 then (yL,some 1) else
  ((b.1,b.2.1,b.2.2.1.filter (fun e=>decide (num<e.1)),if num=b.1 then false else b.2.2.2),none)):=by
 unfold pH;simp only[YX b n hb,j2 b hb,cM,CQ b.2.2.1 num hb.se];by_cases u:uB b n=0
 ·simp only[opt,u,ZH,ZI,pF,ne_eq,aDi,ZN,ce,cl,cg,jp];by_cases h:num<0
  ·simp[h,yL]
  by_cases z:num>b.1
  ·simp[h,z,yL]
  rw[VN (by omega)];by_cases A:num=b.1
  ·subst A;simp[h]
  ·simp[h,z,A]
 ·simp[opt,u,yL]
def Bh(A:List (Option pL))(p:pL):List (Option pL):=A.set p.1.toNat (some p)
def Rel(A:List (Option pL)):Prop:=∀(k:Nat) (p:pL),A[k]? =some (some p)->p.1=(k:Int)
theorem Rel.set{A:List (Option pL)}{p:pL}(h:Rel A)(hp:0<=p.1):Rel (Bh A p):=by
 intro k q u;unfold Bh at u;by_cases z:p.1.toNat=k
 ·subst z;by_cases B:p.1.toNat<A.length
  ·rw[aB2 B] at u;cases u;omega
  ·rw[V4 (by rw[aCu];omega)] at u;cases u
 ·rw[tc z] at u;exact h k q u
def pM(A:List (Option pL))(num:Int)(l:List Ep):List (Option pL):=l.foldl (fun A e=>if num<e.1 then e.2.foldl Bh A else A) A
theorem Uk(l:List pL):∀(A:List (Option pL)),(l.foldl Bh A).length=A.length:=by
 induction l with
 |nil=>intro A;rfl
 |cons x l h=>intro A;rw[O7,h];simp[Bh]
theorem Bi(num:Int)(l:List Ep):∀(A:List (Option pL)),(pM A num l).length=A.length:=by
 induction l with
 |nil=>intro A;rfl
 |cons x l h=>
  intro A;unfold pM at h ⊢;rw[O7,h];split
  ·exact Uk _ _
  ·rfl
theorem dn(b:Bd)(n num:Int)(hb:Sm b):nE b n num=some (if uB b n≠0 then ((0,[]),false,some (uB b n)) else if num<0\/num>b.1 then ((0,[]),false,some 1) else
  if b.1 - num>b.2.2.1.length then ((0,[]),false,none) else ((b.1,(pM (List.replicate 32 none) num b.2.2.1).filterMap id),true,none)):=by
 unfold nE;simp only[YX b n hb,cM];by_cases F:uB b n=0
 ·obtain⟨k1,k2,k3,k4,k5,k6,k7,k8,U⟩:=ZK F;simp only[opt,F,ZH,ZI,pF,ne_eq,aDi,ZN];by_cases G:num<0
  ·simp[cl,G]
  by_cases M:num>b.1
  ·simp[cl,cg,G,M]
  rw[VN (by omega)];simp only[cl,cg,G,M,y6,pF,cM];rw[M9 (by omega)];by_cases N:b.1 - num>b.2.2.1.length
  ·simp[N]
  simp only[N,y6,pF,ZN];have H:=hb.se;show lp _ ((fun (i:Nat) (a:List (Option pL))=>((i:Int),a)) 0 (List.replicate 32 none)) _=_;refine Cx (l:=b.2.2.1) (fun (i:Nat) (a:List (Option pL))=>((i:Int),a)) (fun u a=>a=pM (List.replicate 32 none) num u) (fun a=>a) (List.replicate 32 none) (Hb H (by decide)) rfl ?_ ?_ ?_
  ·intro u e T acc h C;have P:u.length<=1000000:=by rw[h] at H;simp at H;omega
   have I:=hb.ep e (zR h);have Q:=La U e (zR h);have R:=YA n e.2 _ Q;have D:acc.length=32:=by rw[C,Bi];simp
   refine⟨if num<e.1 then e.2.foldl Bh acc else acc,?_,by rw[C];simp[pM]⟩;have K:(u.length:Int)<(b.2.2.1.length:Int):=by rw[h];simp;omega
   simp only[K,Y8,WR,kA h,cM];show lp _ ((fun (i:Nat) (a:List (Option pL))=>((i:Int),a)) 0 acc) _=_;refine Cx (l:=e.2) (fun (i:Nat) (a:List (Option pL))=>((i:Int),a)) (fun u a=>a=if num<e.1 then u.foldl Bh acc else acc) (fun a=>a) acc (Hb I (by decide)) (by simp) ?_ ?_ ?_
   ·intro O x ac B E z;have X:O.length<=1000000:=by rw[E] at I;simp at I;omega
    have S:(O.length:Int)<(e.2.length:Int):=by rw[E];simp;omega
    have aa:=R x (zR E)
    refine⟨if num<e.1 then Bh B x else B,?_,by
     rw[z];by_cases A:num<e.1
     ·simp[A]
     ·simp[A]⟩
    simp only[S,Y8,WR,kA E,cM];rw[l5 (by omega)];by_cases A:num<e.1
    ·have L:e.1>num:=A;have ab:B.length=32:=by rw[z,VX A,Uk];exact D
     obtain⟨y,V,_⟩:=wL (l:=B) (n:=x.1) (by omega) (by omega);simp only[L,Y8,WR,V,cM,ZH,A,Bh]
    ·have L:¬(e.1>num):=A;simp only[L,y6,pF,A,ZN]
   ·intro B _;simp
   ·intro B z;rw[l5 (by omega),z]
  ·intro acc _;simp
  ·intro acc C;have D:acc.length=32:=by rw[C,Bi];simp
   rw[<-C];show lp _ ((fun (i:Nat) (a:List pL)=>((i:Int),a)) 0 []) _=_;refine Cx (l:=acc) (fun (i:Nat) (a:List pL)=>((i:Int),a)) (fun u a=>a=u.filterMap id) (fun a=>a) [] (by unfold fI;omega) rfl ?_ ?_ ?_
   ·intro u x T a h z;have P:u.length<32:=by rw[<-D,h];simp
    have K:(u.length:Int)<32:=by omega
    have U6:=List.length_filterMap_le id u;simp only[K,Y8,WR,kA h,cM];cases x with
    |none=>
     refine⟨a,?_,by rw[z];simp⟩;simp only[ZI,pF];rw[l5 (by omega)]
    |some x=>
     refine⟨a++[x],?_,by rw[z];simp⟩;simp only[aCy,WR,cM];rw[UQ _ _ (by rw[z];simp;omega),cM,l5 (by omega)]
   ·intro a _;rw[D];rfl
   ·intro a z;rw[z]
 ·simp[opt,F]
end Go.ZZ
namespace Go.ZZ
open Go.Pl
open Go Go.Sw Go.Mo
end Go.ZZ
namespace Go.ZZ
open Go.Pl
open Go Go.Sw Go.Mo
theorem Ul{n:Int}{p:pL}(hp:0<=p.1/\p.1<n){l:List pL}(h:XV n (-1) l=true):XV n (-1) (N1 l p)=true:=by
 obtain⟨u,D,rfl,I,K,M⟩:=Eg n p.1 l _ h;rw[Fv I K];have L:∀(u:List pL) (last:Int) (R:List pL),XV n last (u++D)=true->(∀x∈u,x.1<p.1)->last<p.1->(∀C,C<p.1->XV n C D=true->XV n C R=true)->XV n last (u++R)=true:=by
  intro u
  induction u with
  |nil=>intro last R z _ F E;exact E last F z
  |cons x u N=>
   intro last R z G F E;simp only[dg,XV] at z ⊢;split at z
   ·cases z
   ·rename_i H;rw[VN H];exact N x.1 R z (fun y A=>G y (by simp[A])) (G x (by simp)) E
 refine L u (-1) _ h I (by omega) fun C O B=>?_;simp only[XV];rw[VN (by omega),M];cases D with
 |nil=>rfl
 |cons y D=>
  simp only[XV] at B;split at B
  ·cases B
  ·rename_i H;by_cases A:y.1=p.1
   ·simp only[A,ZH];rw[<-A];exact B
   ·simp only[A,ZN,XV];have:=K y (by simp);rw[VN (by omega)];exact B
theorem Ms{n base:Int}{e:Ep}:∀{l:List Ep} {i:Int},Fu n base i l=true->XV n (-1) e.2=true->e.1=base+i+l.length->Fu n base i (l++[e])=true
 | [],i,_,u,z=>by simp only[X3,Fu];rw[VX ⟨u,by simpa using z⟩]
 |x::l,i,h,u,z=>by
  simp only[dg,Fu] at h ⊢;split at h
  ·rename_i A;rw[VX A];exact Ms h u (by rw[z];simp only[B0];omega)
  ·cases h
theorem Mt{n base num:Int}:∀{l:List Ep} {i:Int},Fu n base i l=true->Fu n (base+(l.length - (l.filter fun e=>decide (num<e.1)).length:Int)) i (l.filter fun e=>decide (num<e.1))=true
 | [],_,_=>by simp[Fu]
 |x::l,i,h=>by
  have E:=h;simp only[Fu] at h;split at h
  ·rename_i H;by_cases C:num<x.1
   ·
    have F:∀{l:List Ep} {j:Int},Fu n base j l=true->num<base+j->∀e∈l,num<e.1:=by
     intro l
     induction l with
     |nil=>intro j _ _ e u;simp at u
     |cons y l A=>
      intro j z I e u;simp only[Fu] at z;split at z
      ·rename_i D;rcases j4.1 u with rfl | u
       ·omega
       ·exact A z (by omega) e u
      ·cases z
    have B:(x::l).filter (fun e=>decide (num<e.1))=x::l:=aC9.2 fun e u=>by
     rcases j4.1 u with rfl | u
     ·simpa using C
     ·have:=F h (by omega) e u;simpa using this
    rw[B];simpa using E
   ·have B:(x::l).filter (fun e=>decide (num<e.1))=l.filter (fun e=>decide (num<e.1)):=by simp[C]
    rw[B];have A:=Mt (num:=num) h;have G:∀{l:List Ep} {b j:Int},Fu n b (j+1) l=true->Fu n (b+1) j l=true:=by
     intro l
     induction l with
     |nil=>intro _ _ _;rfl
     |cons y l A=>
      intro b j z;simp only[Fu] at z ⊢;split at z
      ·rename_i D;rw[VX ⟨D.1,by omega⟩];exact A z
      ·cases z
    have:=G A;have e:base+((l.length:Int) - ((l.filter fun e=>decide (num<e.1)).length:Int))+1=base+(((x::l).length:Int) - ((l.filter fun e=>decide (num<e.1)).length:Int)):=by
     simp only[B0];omega
    rw[e] at this;exact this
  ·cases h
theorem Eh{b:Bd}{n:Int}(h1:1<=n/\n<=32)(h2:0<=b.1/\b.1<=2147483647)(h3:b.2.2.1.length<=4)(h4:XV n (-1) b.2.1=true)(h5:¬(b.2.2.2=true/\b.2.2.1.length>0))(h6:(b.2.2.1.length:Int)<=b.1)(h7:Fu n (b.1 - b.2.2.1.length+1) 0 b.2.2.1=true):uB b n=0:=by
 unfold uB;rw[VN (by omega),VN (by omega),VX ⟨h4,h5,h6,h7⟩]
theorem Z1{b:Bd}{n:Int}(h:uB b n=0):Sm b:=by
 obtain⟨H,I,K,L,M,C,N,O,D⟩:=ZK h;have A:∀(l:List pL) (last:Int),-1<=last->XV n last l=true->(l.length:Int)<=n - last - 1\/l=[]:=by
  intro l
  induction l with
  |nil=>intro _ _ _;exact .inr rfl
  |cons x l E=>
   intro last F h;simp only[XV] at h;split at h
   ·cases h
   ·rename_i G;left;rcases E x.1 (by omega) h with u | u
    ·simp only[B0];omega
    ·subst u;simp only[B0,V1];omega
 have z:∀l:List pL,XV n (-1) l=true->l.length<=1000000:=fun l h=>by
  rcases A l (-1) (by omega) h with u | u
  ·omega
  ·subst u;simp
 exact⟨z _ C,by omega,fun e B=>z _ (La D e B)⟩
theorem LP{b:Bd}{n:Int}{p:pL}(h:uB b n=0)(hp:0<=p.1/\p.1<n):uB (b.1,N1 b.2.1 p,b.2.2.1,b.2.2.2) n=0:=by
 obtain⟨u,z,A,B,C,D,E,F,G⟩:=ZK h;exact Eh ⟨u,z⟩ ⟨A,B⟩ C (Ul hp D) E F G
theorem GY{b:Bd}{n num:Int}(h:uB b n=0)(_hn:0<=num/\num<=b.1):uB (b.1,b.2.1,b.2.2.1.filter (fun e=>decide (num<e.1)),if num=b.1 then false else b.2.2.2) n=0:=by
 obtain⟨A,B,C,D,E,F,G,K,H⟩:=ZK h;have z:=aCl (fun e:Ep=>decide (num<e.1)) b.2.2.1;refine Eh ⟨A,B⟩ ⟨C,D⟩ (ai z E) F ?_ (by simp only;omega) ?_
 ·rintro⟨u,I⟩;simp only at u I;split at u
  ·cases u
  ·exact G ⟨u,by omega⟩
 ·have:=Mt (num:=num) H;have e:b.1 - (b.2.2.1.length:Int)+1+((b.2.2.1.length:Int) - ((b.2.2.1.filter fun e=>decide (num<e.1)).length:Int))=b.1 - ((b.2.2.1.filter fun e=>decide (num<e.1)).length:Int)+1:=by omega
  rw[e] at this;exact this
def Bp(b:Bd):Bd:=if b.2.2.2=true then (b.1+1,[],b.2.2.1,b.2.2.2) else if b.2.2.1.length=4 then (b.1+1,[],[],true) else (b.1+1,[],b.2.2.1++[(b.1+1,b.2.1)],b.2.2.2)
theorem GZ{b:Bd}{n:Int}(h:uB b n=0)(hn:b.1<2147483647):uB (Bp b) n=0:=by
 obtain⟨u,z,F,G,H,D,B,I,E⟩:=ZK h;unfold Bp;cases hbh:b.2.2.2 with
 |true=>
  have C:b.2.2.1=[]:=eu (by simp[hbh] at B;simp[B]);simp only[ZH,C];exact Eh ⟨u,z⟩ (by simp only;omega) (by simp) rfl (by simp) (by simp;omega) rfl
 |false=>
  by_cases A:b.2.2.1.length=4
  ·simp only[O5,ZN,A,ZH];exact Eh ⟨u,z⟩ (by simp only;omega) (by simp) rfl (by simp) (by simp;omega) rfl
  ·simp only[O5,ZN,A];refine Eh ⟨u,z⟩ (by simp only;omega) (by simp;omega) rfl (by simp) (by simp;omega) ?_;have e:b.1+1 - ((b.2.2.1++[(b.1+1,b.2.1)]).length:Int)+1=b.1 - (b.2.2.1.length:Int)+1:=by simp;omega
   simp only;rw[e];exact Ms E D (by simp only;omega)
theorem vt{b:Bd}{n:Int}(h:uB b n=0)(hn:b.1<2147483647):rM b n=some (Bp b,none):=by
 rw[LN b n (Z1 h),VN (by omega),VN (by omega)];unfold Bp;split
 ·rfl
 ·split<;>rfl
theorem aI8{b:Bd}{n:Int}{p:pL}(h:uB b n=0)(hp:0<=p.1/\p.1<n):tL b n p=some ((b.1,N1 b.2.1 p,b.2.2.1,b.2.2.2),none):=by
 rw[sw b n p (Z1 h),VN (by omega),VN (by omega)]
theorem LR{b:Bd}{n num:Int}(h:uB b n=0)(hn:0<=num/\num<=b.1):pH b n num=some ((b.1,b.2.1,b.2.2.1.filter (fun e=>decide (num<e.1)),if num=b.1 then false else b.2.2.2),none):=by
 rw[LO b n num (Z1 h),VN (by omega),VN (by omega)]
end Go.ZZ
namespace Go.ZZ
open Go.Pl
open Go Go.Sw Go.Mo
def Lb(bs:List aR)(ps:List pL):List aR:=ps.foldl (fun bs p=>bs.set p.1.toNat p.2) bs
def Fw(l:List pL)(i:Nat):Option pL:=l.reverse.find? fun q=>q.1==(i:Int)
theorem CR(p:pL)(l:List pL)(i:Nat):Fw (p::l) i=(Fw l i).or (if p.1=(i:Int) then some p else none):=by
 unfold Fw;rw[List.reverse_cons,List.find?_append];congr 1;by_cases h:p.1=(i:Int)
 ·simp[h]
 ·simp[h]
theorem Qa(p:pL)(l:List pL)(i:Nat):Fw (l++[p]) i=if p.1=(i:Int) then some p else Fw l i:=by
 unfold Fw;rw[List.reverse_append];by_cases h:p.1=(i:Int)
 ·simp[h]
 ·simp[h]
theorem Ry:∀(l:List pL) (bs:List aR) (i:Nat),(∀p∈l,0<=p.1)->(Lb bs l)[i]? =match Fw l i with | some p=>if i<bs.length then some p.2 else none | none=>bs[i]?
 | [],bs,i,_=>rfl
 |p::l,bs,i,h=>by
  have A:=h p (by simp);show (Lb (bs.set p.1.toNat p.2) l)[i]? =_;rw[Ry l _ i fun q z=>h q (by simp[z]),CR];cases hg:Fw l i with
  |some q=>simp[hg]
  |none=>
   simp only[Option.none_or];by_cases u:p.1=(i:Int)
   ·have:p.1.toNat=i:=by omega
    rw[VX u,this,aCr];simp
   ·have:p.1.toNat≠i:=by omega
    rw[VN u,tc this]
theorem Qb{bs:List aR}{l l':List pL}(h:∀p∈l,0<=p.1)(h':∀p∈l',0<=p.1)(hg:∀i,Fw l i=Fw l' i):Lb bs l=Lb bs l':=by
 apply yl;intro i;rw[Ry l bs i h,Ry l' bs i h',hg i]
theorem CS{n:Int}{l:List pL}{p:pL}(h:XV n (-1) l=true)(i:Nat):Fw (N1 l p) i=Fw (l++[p]) i:=by
 obtain⟨E,A,rfl,C,D,_⟩:=Eg n p.1 l _ h;rw[Fv C D,Qa];unfold Fw;simp only[List.reverse_append,List.reverse_cons,List.find?_append];have B:((A.filter fun x=>decide (x.1≠p.1)).reverse.find? fun q=>q.1==(i:Int))=if p.1=(i:Int) then none else A.reverse.find? fun q=>q.1==(i:Int):=by
  rw[<-List.filter_reverse,List.find?_filter];split
  ·rename_i u;rw[List.find?_eq_none];intro x _;simp;omega
  ·rename_i u;congr 1;funext x;by_cases z:x.1=(i:Int)
   ·have:x.1≠p.1:=by omega
    simp[z];omega
   ·simp[z]
 rw[B];by_cases u:p.1=(i:Int)
 ·simp[u]
 ·simp[u]
def RJ(A:List (Option pL))(i:Nat):Option pL:=(A[i]?).join
theorem Um{A:List (Option pL)}(h:Rel A)(i:Nat):Fw (A.filterMap id) i=RJ A i:=by
 unfold Fw RJ;have E:∀q,(A.filterMap id).reverse.find? (fun q=>q.1==(i:Int))=some q->(A[i]?).join=some q:=by
  intro q u;have F:=List.find?_some u;have z:=List.mem_of_find?_eq_some u;rw[List.mem_reverse,aDg] at z;obtain⟨o,G,D⟩:=z;simp only[id_eq] at D;subst D;obtain⟨j,H,I⟩:=aEa G;have B:A[j]? =some (some q):=by rw[C3 H,I]
  have C:=h j q B;have:j=i:=by simp at F;omega
  subst this;rw[B];rfl
 cases u:(A.filterMap id).reverse.find? (fun q=>q.1==(i:Int)) with
 |some q=>rw[E q u]
 |none=>
  rw[List.find?_eq_none] at u;cases hA:A[i]? with
  |none=>rfl
  |some o=>
   cases o with
   |none=>rfl
   |some q=>
    have C:=h i q hA;exfalso;refine u q ?_ (by simp[C]);rw[List.mem_reverse,aDg];exact⟨some q,yw hA,rfl⟩
theorem LS{A:List (Option pL)}{p:pL}(h:p∈A.filterMap id):∃j:Nat,A[j]? =some (some p):=by
 obtain⟨o,z,u⟩:=aDg.1 h;simp only[id_eq] at u;subst u;obtain⟨j,B,C⟩:=aEa z;exact⟨j,by rw[C3 B,C]⟩
theorem Mu{A:List (Option pL)}(h:Rel A){p:pL}(hp:p∈A.filterMap id):0<=p.1/\p.1<(A.length:Int):=by
 obtain⟨j,u⟩:=LS hp;have:=h j p u;have z:=(yp.1 u).1;omega
theorem LU{A:List (Option pL)}{p:pL}(h0:0<=p.1)(hl:p.1<(A.length:Int))(i:Nat):RJ (Bh A p) i=if p.1=(i:Int) then some p else RJ A i:=by
 unfold RJ Bh;by_cases h:p.1=(i:Int)
 ·have:p.1.toNat=i:=by omega
  rw[VX h,this,aCr];have:i<A.length:=by omega
  simp[this]
 ·have:p.1.toNat≠i:=by omega
  rw[VN h,tc this]
theorem Uo{bs:List aR}:∀(ps:List pL) {A:List (Option pL)},Rel A->(∀p∈ps,0<=p.1/\p.1<(A.length:Int))->Lb bs ((ps.foldl Bh A).filterMap id)=Lb (Lb bs (A.filterMap id)) ps/\Rel (ps.foldl Bh A)
 | [],_,h,_=>⟨rfl,h⟩
 |p::ps,A,h,C=>by
  have z:=C p (by simp);have B:=h.set z.1;obtain⟨D,E⟩:=Uo (bs:=bs) ps B fun q u=>by rw[show (Bh A p).length=A.length from aCu];exact C q (by simp[u])
  refine⟨?_,E⟩;show Lb bs ((ps.foldl Bh (Bh A p)).filterMap id)=Lb ((Lb bs (A.filterMap id)).set p.1.toNat p.2) ps;rw[D];congr 1;have:(Lb bs (A.filterMap id)).set p.1.toNat p.2=Lb bs (A.filterMap id++[p]):=by unfold Lb;rw[aC5];rfl
  rw[this];refine Qb (fun q u=>(Mu B u).1) (fun q u=>?_) fun i=>?_
  ·rcases J6.1 u with u | u
   ·exact(Mu h u).1
   ·simp at u;subst u;exact z.1
  ·rw[Um B,LU z.1 z.2,Qa,Um h]
def AK(snaps:List (List aR))(l:List Ep):Prop:=∀e∈l,1<=e.1/\Lb (snaps.getD (e.1 - 1).toNat []) e.2=snaps.getD e.1.toNat []
theorem Up{n base k:Int}{snaps:List (List aR)}(hn:n<=32)(hk:base - 1<=k)(hb:1<=base):∀(l:List Ep),Fu n base 0 l=true->AK snaps l->
  Lb (snaps.getD k.toNat []) ((pM (List.replicate 32 none) k l).filterMap id)=snaps.getD (max k (base+l.length - 1)).toNat []/\Rel (pM (List.replicate 32 none) k l):=by
 have I:∀(l:List Ep) (i:Int) (e:Ep),Fu n base i (l++[e])=true->Fu n base i l=true/\XV n (-1) e.2=true/\e.1=base+i+l.length:=by
  intro l
  induction l with
  |nil=>
   intro i e h;simp only[X3,Fu] at h;split at h
   ·rename_i u;exact⟨rfl,u.1,by simpa using u.2⟩
   ·cases h
  |cons x l F=>
   intro i e h;simp only[dg,Fu] at h ⊢;split at h
   ·rename_i u;obtain⟨A,B,T⟩:=F (i+1) e h;rw[VX u];exact⟨A,B,by rw[T];simp only[B0];omega⟩
   ·cases h
 have K:∀(m:Nat) (l:List Ep),l.length=m->Fu n base 0 l=true->AK snaps l->
  Lb (snaps.getD k.toNat []) ((pM (List.replicate 32 none) k l).filterMap id)=snaps.getD (max k (base+l.length - 1)).toNat []/\Rel (pM (List.replicate 32 none) k l):=by
  intro m
  induction m with
  |zero=>
   intro l z _ _;have:=eu z;subst this;refine⟨?_,fun j p E=>?_⟩
   ·have:(pM (List.replicate 32 (none:Option pL)) k []).filterMap id=[]:=by simp[pM,List.filterMap_replicate]
    rw[this];have:max k (base+(([]:List Ep).length:Int) - 1)=k:=by simp only[V1];omega
    rw[this];rfl
   ·simp only[pM,List.foldl_nil,aDu] at E;split at E<;>cases E
  |succ m F=>
   intro l z H C;rcases List.eq_nil_or_concat l with rfl |⟨q,e,rfl⟩
   ·simp at z
   rw[List.concat_eq_append] at z H C ⊢;obtain⟨u,D,h3⟩:=I q 0 e H;obtain⟨A,B⟩:=F q (by simp at z;exact z) u fun Q R=>C Q (by simp[R]);obtain⟨c1,U⟩:=C e (by simp);have L:((q++[e]).length:Int)=q.length+1:=by simp
   have M:pM (List.replicate 32 none) k (q++[e])=if k<e.1 then e.2.foldl Bh (pM (List.replicate 32 none) k q) else pM (List.replicate 32 none) k q:=by simp[pM]
   rw[M,L];by_cases G:k<e.1
   ·rw[VX G];have N:=YA n e.2 _ D;have aa:(pM (List.replicate 32 (none:Option pL)) k q).length=32:=by rw[Bi];simp
    obtain⟨V,X⟩:=Uo (bs:=snaps.getD k.toNat []) e.2 B fun p S=>by have:=N p S;omega
    refine⟨?_,X⟩;rw[V,A];have O:max k (base+(q.length:Int) - 1)=e.1 - 1:=by omega
    have P:max k (base+((q.length:Int)+1) - 1)=e.1:=by omega
    rw[O,P,U]
   ·rw[VN G];refine⟨?_,B⟩;rw[A];congr 2;omega
 intro l u D;exact K l.length l rfl u D
theorem uC{A:Type}{l:List A}{x d:A}{i:Nat}(h:i<l.length):(l++[x]).getD i d=l.getD i d:=by
 rw[R2,R2,aBw h]
theorem Ei{A:Type}{l:List A}{x d:A}{i:Nat}(h:i=l.length):(l++[x]).getD i d=x:=by
 subst h;rw[R2];simp
theorem Xv{n k:Int}{l:List Ep}(h:∀e∈l,XV n (-1) e.2=true){j:Nat}{p:pL}(hp:(pM (List.replicate 32 none) k l)[j]? =some (some p)):0<=p.1/\p.1<n:=by
 have E:∀(q:List pL) (A:List (Option pL)),(∀x∈q,0<=x.1/\x.1<n)->(∀(j:Nat) (p:pL),A[j]? =some (some p)->0<=p.1/\p.1<n)->∀(j:Nat) (p:pL),(q.foldl Bh A)[j]? =some (some p)->0<=p.1/\p.1<n:=by
  intro q
  induction q with
  |nil=>intro A _ h;exact h
  |cons x q C=>
   intro A B z;refine C _ (fun y G=>B y (by simp[G])) fun j p u=>?_;unfold Bh at u;rw[aCr] at u;split at u
   ·split at u
    ·cases u;exact B _ (by simp)
    ·cases u
   ·exact z j p u
 have F:∀(l:List Ep) (A:List (Option pL)),(∀e∈l,XV n (-1) e.2=true)->(∀(j:Nat) (p:pL),A[j]? =some (some p)->0<=p.1/\p.1<n)->∀(j:Nat) (p:pL),(pM A k l)[j]? =some (some p)->0<=p.1/\p.1<n:=by
  intro l
  induction l with
  |nil=>intro A _ z;exact z
  |cons e l C=>
   intro A D z;refine C _ (fun H I=>D H (by simp[I])) fun j p u=>?_;simp only at u;split at u
   ·exact E e.2 A (fun x B=>by have:=YA n e.2 _ (D e (by simp)) x B;omega) z j p u
   ·exact z j p u
 exact F l _ h (fun j p u=>by rw[aDu] at u;split at u<;>cases u) j p hp
end Go.ZZ
namespace Go.ZA
open Go.Pl
open Go Go.Sw Go.Mo
theorem HA(l:List aR)(b:aR)(h:l.length<=1000000):Cw l b=some (if b∈l then ((l.idxOf b:Nat):Int) else -1):=by
 unfold Cw;rw[show (0:Int)=((0:Nat):Int) from rfl,Be (l:=l) (fun i (_:Unit)=>(i:Int)) () (fun i z _=>if z=b then .done (.ret (i:Int)) else .next ()) (fun _=> .VP ()) (by unfold fI;omega)]
 ·have:∀(l:List aR) (i:Nat),sL (fun (i:Nat) (z:aR) (_:Unit)=>(if z=b then Step.done (Ex.ret (i:Int)) else .next ():Step Unit (Ex Unit Int))) (fun _=> .VP ()) i () l=if b∈l then .ret ((i+l.idxOf b:Nat):Int) else .VP ():=by
   intro l;induction l with
   |nil=>intro i;simp[sL]
   |cons x l C=>
    intro i;simp only[sL];by_cases u:x=b
    ·subst u;simp
    ·have A:¬b=x:=fun h=>u h.symm;rw[VN u];simp only[C,j4,A,false_or,List.idxOf_cons];have:(x==b)=false:=by simp[u]
     rw[this];simp only[pF];split<;>simp<;>omega
  rw[this];split<;>simp[out]
 ·rintro B x D acc rfl;simp only[pK,WR,mU,cM,Ie,GJ (n:=B.length) (m:=1000000) (by simp at h;omega) (by omega)];by_cases u:x=b<;>simp[u,Ie]
 ·intro _;simp[dQ]
theorem Qc(pre:List aR)(z:aR):fJ (pre.map fun x=>(x,true)) z=if z∈pre then some true else none:=by
 induction pre with
 |nil=>simp[fJ]
 |cons x pre A=>
  simp only[D9,fJ,A,j4];by_cases u:x=z
  ·simp[u]
  ·have:¬z=x:=fun h=>u h.symm;simp[u,this]
theorem YX(l:List aR)(h:l.length<=1000000):qA l=some (if l.length>8 then some 2 else if l.Nodup then none else some 3):=by
 unfold qA;by_cases E:l.length>8
 ·have:cm .gtr (l.length:Int) 8=true:=by simp[cm];omega
  rw[this];simp[E]
 have:cm .gtr (l.length:Int) 8=false:=by simp[cm];omega
 rw[this,VN E];simp only[pF];rw[show ((0:Int),([]:List (aR×Bool)))=(((0:Nat):Int),(l.take 0).map fun x=>(x,true)) from rfl,Be (l:=l) (fun i (_:Unit)=>((i:Int),(l.take i).map fun x=>(x,true))) () (fun i z _=>if z∈l.take i then .done (.ret (some 3)) else .next ()) (fun _=> .VP ()) (by unfold fI;omega)]
 ·have:∀(u pre:List aR),l=pre++u->pre.Nodup->sL (fun (i:Nat) (z:aR) (_:Unit)=>(if z∈l.take i then Step.done (Ex.ret (some 3)) else .next ():Step Unit (Ex Unit (Option Int)))) (fun _=> .VP ()) pre.length () u=if l.Nodup then .VP () else .ret (some 3):=by
   intro u;induction u with
   |nil=>intro pre B D;rw[V2] at B;subst B;simp[sL,D]
   |cons x u K=>
    intro pre B D;simp only[sL];have C:l.take pre.length=pre:=by rw[B];simp
    rw[C];by_cases A:x∈pre
    ·rw[VX A];have:¬l.Nodup:=by rw[B,List.nodup_append];rintro⟨_,_,I⟩;exact I x A x (by simp) rfl
     simp[this]
    ·rw[VN A];have:=K (pre++[x]) (by rw[B];simp) (by rw[List.nodup_append];exact⟨D,by simp,fun a H b F=>by simp at F;subst F;rintro rfl;exact A H⟩);simpa using this
  have:=this l [] rfl (by simp);simp only[V1] at this;rw[this];split<;>simp[out]
 ·rintro pre x u acc rfl;have C:(pre++x::u).take pre.length=pre:=by simp
  simp only[pK,WR,mU,cM,C,Qc,Ie,GJ (n:=pre.length) (m:=1000000) (by simp at h;omega) (by omega)];by_cases A:x∈pre
  ·simp[A,Ie]
  ·have G:(pre++x::u).take (pre.length+1)=pre++[x]:=by rw[List.take_append];simp[aCb]
   simp only[A,ZN,aEr,pF,Gm,Qc,cM,Ie,G];simp
 ·intro _;simp[dQ]
end Go.ZA
namespace Go.ZA
open Go.Pl
open Go Go.Sw Go.Mo
abbrev ZO:=Int×Int×Int×aR
def Rz(h:List aR):Int:=if h.length>8 then 2 else if h.Nodup then 0 else 3
def XS(e h:List aR):Int:=if e.length<1\/e.length>32 then 1 else Rz h
def opt(n:Int):Option Int:=if n=0 then none else some n
theorem Mv(l:List aR)(h:l.length<=1000000):qA l=some (opt (Rz l)):=by
 rw[YX l h];unfold Rz opt;by_cases u:l.length>8
 ·simp[u]
 by_cases z:l.Nodup<;>simp[u,z]
theorem Mw(e h:List aR)(hh:h.length<=1000000):nX e h=some (opt (XS e h)):=by
 unfold nX XS;simp only[cl,cg,Mv h hh];by_cases u:e.length<1
 ·have:(e.length:Int)<1:=by omega
  simp[u,this,opt]
 by_cases B:e.length>32
 ·have z:¬(e.length:Int)<1:=by omega
  have A:(e.length:Int)>32:=by omega
  simp[u,B,z,A,opt]
 have z:¬(e.length:Int)<1:=by omega
 have A:¬(e.length:Int)>32:=by omega
 simp[u,B,z,A]
def Ol(n prev:Int)(x:ZO):Bool:=decide (x.1<=prev) || decide (x.1>=n) || decide (x.2.1<0) || decide (x.2.1>3)
def goes(n:Int):Int->List ZO->Bool
 |_,[]=>true
 |prev,x::l=> !Ol n prev x && goes n x.1 l
theorem LW(n prev:Int)(x:ZO){γ:Type}(k:Bool->Option γ):((bif (cm .leq x.1 prev) then
  some true
  else
   bif (cm .geq x.1 n) then
    some true
   else
    bif (cm .lss x.2.1 (0:Int)) then
     some true
    else
     some (cm .gtr x.2.1 (3:Int))).bind k)=k (Ol n prev x):=by
 simp only[ye,G7,cl,cg];unfold Ol;by_cases h:x.1<=prev
 ·simp[h]
 by_cases u:x.1>=n
 ·simp[h,u]
 by_cases z:x.2.1<0
 ·simp[h,u,z]
 simp[h,u,z]
theorem Qd{n:Int}:∀{l:List ZO} {prev:Int},goes n prev l=true->∀x∈l,0<=x.2.1/\x.2.1<=3
 | [],_,_,x,u=>by simp at u
 |y::l,prev,h,x,u=>by
  simp only[goes,B9,oe] at h;rcases j4.1 u with rfl | u
  ·have:=h.1;unfold Ol at this;simp at this;omega
  ·exact Qd h.2 x u
def Uq(w n:Int)(l:List ZO):Int:=if w=0 then (if goes n (-1) l then 0 else 1) else w
theorem HB{γ:Type}(l:List ZO)(n:Int)(z:γ)(hl:l.length<=1000000)(k:Unit->Option γ):
  lp (β:=Unit) (fun (M1:Int×Int)=>
    bif (cm .lss M1.2 (l.length:Int)) then
     (Sw.idx l M1.2).bind fun ao=>
      (bif (cm .leq ao.1 M1.1) then
       some true
      else
       bif (cm .geq ao.1 n) then
        some true
       else
        bif (cm .lss ao.2.1 (0:Int)) then
         some true
        else
         some (cm .gtr ao.2.1 (3:Int))).bind fun fp=>
       bif fp then
        some (.done (.ret z))
       else
        some (.next (ao.1,(ar .add .i64 M1.2 (1:Int))))
    else
     some (.done (.VP ()))
    ) ((-1:Int),(0:Int)) k=if goes n (-1) l then k () else some z:=by
 refine(Be (l:=l) (fun i (acc:Int)=>(acc,(i:Int))) (-1:Int) (fun _ x acc=>if Ol n acc x then .done (.ret z) else .next x.1) (fun _=> .VP ()) (Hb hl (by decide)) ?_ ?_).trans ?_
 ·intro B x C acc h;simp only[kV h,WR,kA h,cM,LW];by_cases u:Ol n acc x=true
  ·simp[u,Ie]
  ·simp only[yj] at u;rw[l5 (by rw[h] at hl;simp at hl;omega)];simp[u,Ie]
 ·intro acc;simp only[dQ,pF]
 ·have:∀(l:List ZO) (i:Nat) (prev:Int),sL (fun (_:Nat) (x:ZO) (acc:Int)=>(if Ol n acc x then .done (.ret z) else .next x.1:Step Int (Ex Unit γ))) (fun _=> .VP ()) i prev l=if goes n prev l then .VP () else .ret z:=by
   intro l
   induction l with
   |nil=>intro i prev;simp[sL,goes]
   |cons x l A=>
    intro i prev;simp only[sL];by_cases u:Ol n prev x=true
    ·simp[u,goes]
    ·simp only[yj] at u;simp[u,goes,A]
  rw[this];by_cases g:goes n (-1) l=true<;>simp[g,out]
def zS(x:ZO)(e h:List aR):aR×Bool:=
 if x.2.1=0 then (aU,true) else if x.2.1=3 then (x.2.2.2,true) else
  let l:=if x.2.1=2 then h else e
  if x.2.2.1<0\/x.2.2.1>=l.length then (aU,false) else (l.getD x.2.2.1.toNat [],true)
theorem HC(l:List aR)(n:Int):((bif (cm .lss n (0:Int)) then
  some true
        else
         some (cm .geq n (l.length:Int))).bind fun x5=>
         bif x5 then
          some (aU,false)
         else
          (Sw.idx l n).bind fun z8=>
           some (z8,true))=some (if n<0\/n>=l.length then (aU,false) else (l.getD n.toNat [],true)):=by
 rw[cl,G7];by_cases h:n<0
 ·simp[h]
 by_cases u:n>=l.length
 ·simp[h,u]
 have z:n.toNat<l.length:=by omega
 have:Sw.idx l n=some (l.getD n.toNat []):=by unfold Sw.idx;rw[VX (by omega)];simp[R2,C3 z]
 simp only[h,u,y6,pF,cM,this,aEy,ZN]
theorem OX(l:List aR)(n:Int):tA l n=some (if n<0\/n>=l.length then (aU,false) else (l.getD n.toNat [],true)):=HC l n
def Sa(e h:List aR)(x:ZO)(acc:List (Int×aR)×List Int):List (Int×aR)×List Int:=
 if (zS x e h).2 then (acc.1++[(x.1,(zS x e h).1)],acc.2) else (acc.1,acc.2++[x.1])
def XD(e h:List aR)(l:List ZO):List (Int×aR)×List Int:=(l.zipIdx).foldl (fun acc x=>Sa e h x.1 acc) ([],[])
theorem HD(e h:List aR)(x:ZO)(acc:List (Int×aR)×List Int):(Sa e h x acc).1.length+(Sa e h x acc).2.length=acc.1.length+acc.2.length+1:=by
 unfold Sa;split<;>simp<;>omega
theorem HE{γ:Type}(e h:List aR)(x:ZO)(acc:List (Int×aR)×List Int)(ha:acc.1.length+acc.2.length<=1000000)(k:List (Int×aR)×List Int->Option γ)(v:aR×Bool)(hv:v=zS x e h):
  (bif v.2 then (Sw.app acc.1 ([(x.1,v.1)]:(List (Int×aR)))).bind fun aUn=>k (aUn,acc.2) else (Sw.app acc.2 ([x.1]:(List Int))).bind fun aF9=>k (acc.1,aF9))=k (Sa e h x acc):=by
 subst hv;unfold Sa;rw[UQ _ _ (by simp;omega),UQ _ _ (by simp;omega)];by_cases c:(zS x e h).2=true
 ·simp[c]
 ·simp only[yj] at c;simp[c]
theorem Ur(l:List ZO)(e h:List aR)(hl:l.length<=1000)(hk:∀x∈l,0<=x.2.1/\x.2.1<=3){γ:Type}(k:List (Int×aR)×List Int->Option γ):
  lp (β:=(List (Int×aR))×(List Int)) (fun (W9:Int×(List (Int×aR))×(List Int))=>
    bif (cm .lss W9.1 (l.length:Int)) then
     (Sw.idx l W9.1).bind fun M8=>
      bif (cm .eql M8.2.1 (1:Int)) then
       (tA e M8.2.2.1).bind fun aL4=>
        bif aL4.2 then
         (Sw.app W9.2.1 ([(M8.1,aL4.1)]:(List (Int×aR)))).bind fun vn=>
          some (.next ((ar .add .i64 W9.1 (1:Int)),vn,W9.2.2))
        else
         (Sw.app W9.2.2 ([M8.1]:(List Int))).bind fun aUo=>
          some (.next ((ar .add .i64 W9.1 (1:Int)),W9.2.1,aUo))
      else
       bif (cm .eql M8.2.1 (2:Int)) then
        (tA h M8.2.2.1).bind fun ox=>
         bif ox.2 then
          (Sw.app W9.2.1 ([(M8.1,ox.1)]:(List (Int×aR)))).bind fun vm=>
           some (.next ((ar .add .i64 W9.1 (1:Int)),vm,W9.2.2))
         else
          (Sw.app W9.2.2 ([M8.1]:(List Int))).bind fun aF9=>
           some (.next ((ar .add .i64 W9.1 (1:Int)),W9.2.1,aF9))
       else
        bif (cm .eql M8.2.1 (3:Int)) then
         (Sw.app W9.2.1 ([(M8.1,M8.2.2.2)]:(List (Int×aR)))).bind fun aUm=>
          some (.next ((ar .add .i64 W9.1 (1:Int)),aUm,W9.2.2))
        else
         (Sw.app W9.2.1 ([(M8.1,aU)]:(List (Int×aR)))).bind fun aUl=>
          some (.next ((ar .add .i64 W9.1 (1:Int)),aUl,W9.2.2))
    else
     some (.done (.VP (W9.2.1,W9.2.2)))
    ) ((0:Int),([]:(List (Int×aR))),([]:(List Int))) k=k (XD e h l):=by
 refine(A1 (l:=l) (fun i (acc:List (Int×aR)×List Int)=>((i:Int),acc.1,acc.2)) (fun i acc=>acc.1.length+acc.2.length=i) ([],[]) (fun _ x acc=>Sa e h x acc) id (Hb (n:=1000) hl (by decide)) rfl ?_ ?_).trans ?_
 ·intro D x K acc B F;have H:D.length<=1000:=by rw[B] at hl;simp at hl;omega
  have I:=hk x (by rw[B];simp);refine⟨?_,by rw[HD,F]⟩;simp only[kV B,WR,ce,cM,kA B,OX];rw[l5 (by omega)];have z:=fun v G=>HE e h x acc (by omega) (fun a=>(some (.next (((D.length+1:Nat):Int),a.1,a.2)):Option (Step (Int×(List (Int×aR))×(List Int)) (Ex ((List (Int×aR))×(List Int)) γ)))) v G;by_cases u:x.2.1=1
  ·have:=z (if x.2.2.1<0\/x.2.2.1>=e.length then (aU,false) else (e.getD x.2.2.1.toNat [],true)) (by unfold zS;simp[u]);simp only[u,Y8,WR];exact this
  by_cases A:x.2.1=2
  ·have:=z (if x.2.2.1<0\/x.2.2.1>=h.length then (aU,false) else (h.getD x.2.2.1.toNat [],true)) (by unfold zS;simp[A]);simp only[u,A,Y8,y6,WR,pF];exact this
  by_cases C:x.2.1=3
  ·have:=z (x.2.2.2,true) (by unfold zS;simp[C]);simp only[u,A,C,Y8,y6,WR,pF];exact this
  ·have E:x.2.1=0:=by omega
   have:=z (aU,true) (by unfold zS;simp[E]);simp only[u,A,C,y6,pF];exact this
 ·intro acc _;simp only[dQ,pF];rfl
 ·rfl
theorem HF(l:List ZO)(e h:List aR)(hl:l.length<=1000)(hh:h.length<=1000000):pG l e h=some (if Uq (XS e h) e.length l=0 then ((XD e h l).1,(XD e h l).2,none) else ([],[],some (Uq (XS e h) e.length l))):=by
 unfold pG;rw[Mw e h hh,cM];unfold Uq;by_cases u:XS e h=0
 ·simp only[u,opt,ZH,ZI,pF];rw[HB l _ _ (by omega)];by_cases g:goes e.length (-1) l=true
  ·simp only[g,ZH];rw[Ur l e h hl (Qd g)]
  ·simp[g]
 ·simp[u,opt]
end Go.ZA
namespace Go.ZA
open Go.Pl
open Go Go.Sw Go.Mo
theorem AL{α:Type}[DecidableEq α]{k:α}:∀{l:List α},kp l k=none->k∉l
 | [],_=>by simp
 |a::l,h=>by
  simp only[kp] at h;split at h
  ·cases h
  ·rename_i u;cases hr:kp l k with
   |none=>have:=AL hr;simp only[j4,not_or];exact⟨fun e=>u e.symm,this⟩
   |some j=>rw[hr] at h;cases h
theorem Qe{α β:Type}[DecidableEq α]{k:α}:∀{m:List (α×β)},k∉m.map (·.1)->fJ m k=none
 | [],_=>rfl
 | (a,b)::m,h=>by
  simp only[D9,j4,not_or] at h;simp only[fJ,VN (fun e=>h.1 (Eq.symm e))];exact Qe h.2
theorem Jv{α β:Type}[DecidableEq α]{k:α}{v:β}{b:α}:∀{m:List (α×β)},k∉m.map (·.1)->fJ (m++[(k,v)]) b=if b=k then some v else fJ m b
 | [],_=>by simp only[X3,fJ];by_cases h:k=b<;>simp[h];intro e;exact(h e.symm).elim
 | (a,c)::m,h=>by
  simp only[D9,j4,not_or] at h;simp only[dg,fJ,Jv h.2];by_cases u:a=b
  ·subst u;rw[VX rfl,VX rfl,VN (fun e=>h.1 e.symm)]
  ·simp[u]
theorem Qf{α β:Type}[DecidableEq α]{k:α}{v:β}{b:α}:∀{m:List (α×β)} {q:Nat},kp (m.map (·.1)) k=some q->fJ (vV m q v) b=if b=k then some v else fJ m b
 | [],q,h=>by simp[kp] at h
 | (a,c)::m,q,h=>by
  simp only[D9,kp] at h;split at h
  ·rename_i z;cases h;subst z;simp only[vV,List.modify_zero_cons,fJ];by_cases u:a=b
   ·simp[u]
   ·have:¬b=a:=fun e=>u e.symm;simp[u,this]
  ·rename_i z;cases hr:kp (m.map (·.1)) k with
   |none=>rw[hr] at h;cases h
   |some j=>
    rw[hr] at h;cases h;have:=Qf (v:=v) (b:=b) hr;simp only[vV] at this;simp only[vV,List.modify_succ_cons,fJ,this];by_cases u:a=b
    ·subst u;simp[z]
    ·simp[u]
theorem LX{κ α:Type}[DecidableEq κ](m:List (κ×List α))(k:κ)(hm:m.length<=140737488355328):
  ∃r,Rr m k=some r/\r.2.2=(fJ m k).getD []/\(∀v b,fJ (vV r.1 r.2.1 v) b=if b=k then some v else fJ m b)/\∀v,(vV r.1 r.2.1 v).length<=m.length+1:=by
 unfold Rr;rw[VX hm];cases hk:kp (m.map (·.1)) k with
 |none=>
  have u:=AL hk;refine⟨_,rfl,by rw[Qe u];rfl,fun v b=>?_,fun v=>?_⟩
  ·have:vV (m++[(k,[])]) m.length v=m++[(k,v)]:=by
    apply yl;intro i;simp only[vV,aB7];rcases Nat.lt_trichotomy i m.length with h | h | h
    ·rw[aBw h,aBw h];have:¬m.length=i:=by omega
     simp[this]
    ·subst h;simp
    ·rw[V4 (by simp;omega),V4 (by simp;omega)];rfl
   simp only[this];exact Jv u
  ·simp[vV]
 |some q=>
  refine⟨_,rfl,?_,fun v b=>Qf hk,fun v=>by simp[vV]⟩;rw[Zv,hk];rfl
structure W5 (l:List aR) (M:List (aR×List Int)):Prop where
 none:∀b,b∉l->fJ M b=Option.none
 some:∀b,b∈l->∃t,fJ M b=Option.some (((l.idxOf b:Nat):Int)::t)/\t.length<=l.length
 len:M.length<=l.length
theorem j2(l:List aR)(h:l.length<=1000000):aO l=some l:=by
 unfold aO;rw[UQ _ _ (by simp;omega)];rfl
theorem W5.add{l:List aR}{M M':List (aR×List Int)}{x:aR}(h:W5 l M)(hg:∀b,fJ M' b=if b=x then Option.some ((fJ M x).getD []++[(l.length:Int)]) else fJ M b)(hlen:M'.length<=M.length+1):W5 (l++[x]) M':=by
 refine⟨fun b z=>?_,fun b z=>?_,by have:=h.len;simp;omega⟩
 ·simp only[J6,yr,not_or] at z;rw[hg,VN z.2,h.none b z.1]
 ·rw[hg];by_cases A:b=x
  ·subst A;rw[VX rfl,List.idxOf_append];by_cases u:b∈l
   ·obtain⟨t,B,C⟩:=h.some b u;rw[B,VX u];exact⟨t++[(l.length:Int)],by simp,by simp;omega⟩
   ·rw[h.none b u,VN u];exact⟨[],by simp,by simp⟩
  ·have u:b∈l:=by
    rcases J6.1 z with h | h
    ·exact h
    ·exact(A (by simpa using h)).elim
   rw[VN A,List.idxOf_append,VX u];obtain⟨t,B,C⟩:=h.some b u;exact⟨t,B,by simp;omega⟩
theorem Us(l:List aR)(h1:1<=l.length)(h2:l.length<=32):∃M,W5 l M/\vL l=some (some (l,M),none):=by
 unfold vL;have E:cm .lss (l.length:Int) 1=false:=by rw[cl];simp;omega
 have F:cm .gtr (l.length:Int) 32=false:=by rw[cg];simp;omega
 simp only[E,pF,F,cM,j2 l (by omega)];have G:((0:Int),([]:List (aR×List Int)))=(fun (i:Nat) (acc:List (aR×List Int))=>((i:Int),acc)) 0 []:=rfl;rw[G]
 obtain⟨M,O,P⟩:=GO (l:=l) (k:=fun I=>some (some (l,I),(none:Option Int))) (step:=fun (u:Int×(List (aR×(List Int))))=>
        bif (cm .lss u.1 (l.length:Int)) then
         (Sw.idx l u.1).bind fun K=>
          (Rr u.2 K).bind fun B=>
           (Sw.app B.2.2 ([u.1]:(List Int))).bind fun L=>
            some (.next ((ar .add .i64 u.1 (1:Int)),vV B.1 B.2.1 L))
        else
         some (.done (.VP u.2))) (fun (i:Nat) (acc:List (aR×List Int))=>((i:Int),acc)) (fun h acc=>W5 h acc) (fun acc=>acc) [] (by unfold fI;omega) ⟨fun b _=>rfl,fun b N=>by simp at N,XZ _⟩ (by
   intro h x V acc A z;have U:h.length<32:=by rw[A] at h2;simp at h2;omega
   obtain⟨r,Q,D,R,S⟩:=LX acc x (by have:=z.len;omega);have H:r.2.2.length+1<=4294967296:=by
    rw[D];by_cases C:x∈h
    ·obtain⟨t,T,X⟩:=z.some x C;rw[T];simp;omega
    ·rw[z.none x C];simp
   refine⟨vV r.1 r.2.1 (r.2.2++[(h.length:Int)]),?_,z.add (fun b=>?_) (S _)⟩
   ·simp only[kV A,WR,kA A,cM,Q,UQ _ [(h.length:Int)] (by simpa using H)];rw[l5 (by omega)]
   ·rw[R,D]) (by
   intro acc z
   simp only[dQ,pF])
 exact⟨M,O,P⟩
theorem Hd{l l':List aR}{M:List (aR×List Int)}(h:W5 l M)(b:aR):lM (some (l',M)) b=some (if b∈l then (((l.idxOf b:Nat):Int),true) else (0,false)):=by
 unfold lM;simp only[cM];by_cases u:b∈l
 ·obtain⟨t,z,_⟩:=h.some b u;rw[z,VX u];have:cm .eql (((some (((l.idxOf b:Nat):Int)::t)).getD []).length:Int) 0=false:=by rw[ce];simp;omega
  rw[this];simp[Sw.idx]
 ·rw[h.none b u,VN u];simp[ce]
theorem HG(l:List aR)(b:aR)(h:l.length<=1000000):dX l b=some (if b∈l then ((l.idxOf b:Nat):Int) else -1):=by
 rw[<-HA l b h];unfold dX Cw;have:∀z:aR,decide (b=z)=decide (z=b):=fun z=>by by_cases h:b=z<;>simp[h];intro e;exact(h e.symm).elim
 simp only[this]
theorem He(l:List aR)(b:aR)(h:l.length<=1000000):tZ l b=some (if b∈l then (((l.idxOf b:Nat):Int),true) else (0,false)):=by
 unfold tZ;rw[HG l b h,cM];by_cases u:b∈l
 ·simp only[u,ZH,G7];congr 2<;>simp
 ·simp[u,G7];decide
abbrev Pt:=Int×aR
def Sz(p:Pt)(peer XR:List aR):ZO:=
 if p.2=aU then (p.1,0,0,aU) else if p.2∈peer then (p.1,1,((peer.idxOf p.2:Nat):Int),aU) else if p.2∈XR then (p.1,2,((XR.idxOf p.2:Nat):Int),aU) else (p.1,3,0,p.2)
def same(p:Pt)(peer:List aR):Bool:=decide (peer[p.1.toNat]? =some p.2)
def YN(XD:List Pt)(peer XR:List aR):List ZO:=(XD.filter fun p=> !same p peer).map fun p=>Sz p peer XR
theorem LY{γ:Type}{peer jr XR:List aR}{M:List (aR×List Int)}(h:W5 peer M)(hh:XR.length<=1000000)(p:Pt)(acc:List ZO)(ha:acc.length<=1000000)(k:List ZO->Option γ):
  lp (β:=(List (Int×Int×Int×aR))) (fun (Y0:Int)=>
    bif (cm .lss Y0 (([(.inl ():lH),(.inr (.inl (some (jr,M))):lH),(.inr (.inr (.inl XR)):lH),(.inr (.inr (.inr (.inl ()))):lH)]:(List lH)).length:Int)) then
     (Sw.idx ([(.inl ():lH),(.inr (.inl (some (jr,M))):lH),(.inr (.inr (.inl XR)):lH),(.inr (.inr (.inr (.inl ()))):lH)]:(List lH)) Y0).bind fun um=>
      (jB um p).bind fun kz=>
       bif kz.2 then
        (Sw.app acc ([kz.1]:(List (Int×Int×Int×aR)))).bind fun vl=>
         some (.done (.VP vl))
       else
        some (.next (ar .add .i64 Y0 (1:Int)))
    else
     some (.done (.VP acc))
    ) (0:Int) k=k (acc++[Sz p peer XR]):=by
 obtain⟨z,A⟩:∃z,z=([(.inl ():lH),(.inr (.inl (some (jr,M))):lH),(.inr (.inr (.inl XR)):lH),(.inr (.inr (.inr (.inl ()))):lH)]:(List lH)):=⟨_,rfl⟩;rw[<-A];have D:∀w∈z,∃v,jB w p=some v:=by
  intro w F;rw[A] at F;simp only[j4,aCv,aEs] at F;rcases F with rfl | rfl | rfl | rfl
  ·exact⟨_,rfl⟩
  ·exact⟨_,by simp only[jB,nY,Hd h,cM];rfl⟩
  ·exact⟨_,by simp only[jB,lN,He XR _ hh,cM];rfl⟩
  ·exact⟨_,rfl⟩
 have H:∀q:ZO,Sw.app acc [q]=some (acc++[q]):=fun q=>UQ acc [q] (by simp;omega);rw[show (0:Int)=(fun (i:Nat) (_:Unit)=>(i:Int)) 0 () from rfl,Be (l:=z) (fun (i:Nat) (_:Unit)=>(i:Int)) () (fun _ w _=>match jB w p with | some v=>if v.2=true then .done (.VP (acc++[v.1])) else .next () | none=> .next ()) (fun _=> .VP acc) (by rw[A];unfold fI;simp)]
 ·have I:jB (.inl ()) p=some ((p.1,0,0,aU),decide (p.2=aU)):=rfl;have K:jB (.inr (.inl (some (jr,M)))) p=some ((p.1,1,(if p.2∈peer then (((peer.idxOf p.2:Nat):Int),true) else (0,false)).1,aU),(if p.2∈peer then (((peer.idxOf p.2:Nat):Int),true) else (0,false)).2):=by
   simp only[jB,nY,Hd h,cM]
  have L:jB (.inr (.inr (.inl XR))) p=some ((p.1,2,(if p.2∈XR then (((XR.idxOf p.2:Nat):Int),true) else (0,false)).1,aU),(if p.2∈XR then (((XR.idxOf p.2:Nat):Int),true) else (0,false)).2):=by
   simp only[jB,lN,He XR _ hh,cM]
  have N:jB (.inr (.inr (.inr (.inl ())))) p=some ((p.1,3,0,p.2),true):=rfl;rw[A];simp only[sL,I,K,L,N];unfold Sz;by_cases B:p.2=aU
  ·simp[B,out]
  by_cases E:p.2∈peer
  ·simp[B,E,out]
  by_cases G:p.2∈XR
  ·simp[B,E,G,out]
  ·simp[B,E,G,out]
 ·intro O x Q u C;obtain⟨v,D⟩:=D x (by rw[C];simp);have P:O.length<=4:=by
   have:z.length=4:=by rw[A];rfl
   rw[C] at this;simp at this;omega
  simp only[kV C,WR,kA C,cM,D,H];cases YS:v.2 with
  |true=>simp[Ie]
  |false=>simp only[pF,O5,ZN,Ie];rw[l5 (by omega)]
 ·intro u;simp only[dQ,pF]
end Go.ZA
namespace Go.ZA
open Go.Pl
open Go Go.Sw Go.Mo
def L6(n prev:Int)(x:Pt):Bool:=decide (x.1<=prev) || decide (x.1>=n)
def ZQ(n:Int):Int->List Pt->Bool
 |_,[]=>true
 |prev,x::l=> !L6 n prev x && ZQ n x.1 l
theorem I1{n:Int}:∀{l:List Pt} {prev:Int},ZQ n prev l=true->∀x∈l,prev<x.1/\x.1<n
 | [],_,_,x,u=>by simp at u
 |y::l,prev,h,x,u=>by
  simp only[ZQ,B9,oe] at h;have z:=h.1;unfold L6 at z;simp at z;rcases j4.1 u with rfl | u
  ·omega
  ·have:=I1 h.2 x u;omega
theorem HH{γ:Type}(l:List Pt)(n:Int)(z:γ)(hl:l.length<=1000000)(k:Unit->Option γ):
  lp (β:=Unit) (fun (jl:Int×Int)=>
    bif (cm .lss jl.2 (l.length:Int)) then
     (Sw.idx l jl.2).bind fun ff=>
      (bif (cm .leq ff.1 jl.1) then
       some true
      else
       some (cm .geq ff.1 n)).bind fun tn=>
       bif tn then
        some (.done (.ret z))
       else
        some (.next (ff.1,(ar .add .i64 jl.2 (1:Int))))
    else
     some (.done (.VP ()))
    ) ((-1:Int),(0:Int)) k=if ZQ n (-1) l then k () else some z:=by
 rw[show ((-1:Int),(0:Int))=(fun (i:Nat) (acc:Int)=>(acc,(i:Int))) 0 (-1) from rfl,Kx (l:=l) (fun (i:Nat) (acc:Int)=>(acc,(i:Int))) (fun _ _=>True) (fun acc x=>if L6 n acc x then .done (.ret z) else .next x.1) (fun _=> .VP ()) (-1) (by unfold fI;omega) trivial]
 ·have:∀(l:List Pt) (prev:Int),yJ (fun (acc:Int) (x:Pt)=>(if L6 n acc x then Step.done (Ex.ret z) else .next x.1:Step Int (Ex Unit γ))) (fun _=> .VP ()) prev l=if ZQ n prev l then .VP () else .ret z:=by
   intro l
   induction l with
   |nil=>intro prev;simp[yJ,ZQ]
   |cons x l C=>
    intro prev;simp only[yJ,ZQ];by_cases u:L6 n prev x=true
    ·simp[u]
    ·simp[u,C]
  rw[this];cases ZQ n (-1) l<;>simp[out]
 ·rintro B x E acc rfl -;have D:B.length<=1000000:=by simp at hl;omega
  refine⟨?_,fun _ _=>trivial⟩;simp only[pK,WR,mU,cM];simp only[G7,ye];rw[l5 (by omega)];unfold L6;by_cases h:x.1<=acc
  ·simp[h,Ie]
  ·by_cases A:x.1>=n
   ·simp[h,A,Ie]
   ·simp[h,A,Ie]
 ·rintro acc -;simp only[dQ,pF]
theorem S6(l:List Pt)(peer XR:List aR):(YN l peer XR).length<=l.length:=by unfold YN;rw[ix];exact aCl _ _
theorem HI(pre:List Pt)(x:Pt)(peer XR:List aR):YN (pre++[x]) peer XR=YN pre peer XR++(if same x peer then [] else [Sz x peer XR]):=by
 unfold YN;rw[yv,aCt];cases h:same x peer<;>simp[aD3,h]
theorem HJ:opt 0=none:=rfl
theorem OY{n:Int}(h:n≠0):opt n=some n:=by unfold opt;rw[VN h]
theorem fu(l:List Pt)(peer XR:List aR)(hl:l.length<=1000)(hh:XR.length<=1000000):
  qU l peer XR=some (if XS peer XR≠0 then ([],some (XS peer XR)) else if ZQ (peer.length:Int) (-1) l then (YN l peer XR,none) else ([],some 1)):=by
 unfold qU;rw[Mw peer XR hh,cM];by_cases h:XS peer XR≠0
 ·rw[OY h,VX h];rfl
 have h:XS peer XR=0:=by simpa using h
 have A:1<=peer.length/\peer.length<=32:=by
  unfold XS at h;split at h
  ·cases h
  ·omega
 rw[h,HJ];simp only[ZI,pF];rw[HH l _ _ (by omega)];cases hr:ZQ (peer.length:Int) (-1) l with
 |false=>simp
 |true=>
  simp only[ZH];obtain⟨M,E,F⟩:=Us peer A.1 A.2;rw[F,cM];simp only[ZI,pF];have B:((0:Int),([]:List ZO))=(fun (i:Nat) (acc:List ZO)=>((i:Int),acc)) 0 []:=rfl;rw[B];refine(Cx (l:=l) (r:=some (YN l peer XR,none)) (fun (i:Nat) (acc:List ZO)=>((i:Int),acc)) (fun u acc=>acc=YN u peer XR) (fun acc=>acc) [] (by unfold fI;omega) rfl ?_ ?_ ?_).trans (by simp)
  ·rintro u x L acc z rfl;have C:=I1 hr x (by rw[z];simp);have I:u.length<=1000:=by rw[z] at hl;simp at hl;omega
   have K:=S6 u peer XR;obtain⟨y,G,H⟩:=wL (l:=peer) (n:=x.1) (by omega) C.2;have D:same x peer=decide (y=x.2):=by unfold same;rw[H];simp
   refine⟨YN u peer XR++(if same x peer then [] else [Sz x peer XR]),?_,(HI _ _ _ _).symm⟩;simp only[kV z,WR,kA z,cM,jp,G,<-D];rw[LY E hh x (YN u peer XR) (by omega)];rw[l5 (by omega)];cases same x peer<;>simp
  ·rintro acc rfl;simp only[dQ,pF]
  ·rintro acc rfl;rfl
end Go.ZA
namespace Go.ZA
open Go.Pl
open Go Go.Sw Go.Mo
end Go.ZA
namespace Go.ZA
open Go.Pl
open Go Go.Sw Go.Mo
theorem Sb(p:Pt)(peer XR:List aR):(Sz p peer XR).1=p.1:=by unfold Sz;split;rfl;split;rfl;split<;>rfl
theorem HK(p:Pt)(peer XR:List aR):0<=(Sz p peer XR).2.1/\(Sz p peer XR).2.1<=3:=by unfold Sz;split;simp;split;simp;split<;>simp
theorem Iv{n:Int}{peer XR:List aR}:∀{l:List Pt} {prev jq:Int},ZQ n prev l=true->jq<=prev->goes n jq (YN l peer XR)=true
 | [],_,_,_,_=>rfl
 |x::l,prev,jq,h,B=>by
  simp only[ZQ,B9,oe] at h;have u:=h.1;unfold L6 at u;simp at u;cases hs:same x peer with
  |true=>
   have e:YN (x::l) peer XR=YN l peer XR:=by unfold YN;simp[hs]
   rw[e];exact Iv h.2 (by omega)
  |false=>
   have e:YN (x::l) peer XR=Sz x peer XR::YN l peer XR:=by unfold YN;simp[hs]
   have A:=HK x peer XR;have z:Ol n jq (Sz x peer XR)=false:=by
    unfold Ol;rw[Sb];simp;omega
   rw[e];simp only[goes,z,uf,aEo];rw[Sb];exact Iv h.2 (aDm _)
theorem HL(p:Pt)(peer XR:List aR):zS (Sz p peer XR) peer XR=(p.2,true):=by
 have D:∀(l:List aR),p.2∈l->¬(((l.idxOf p.2:Nat):Int)<0\/((l.idxOf p.2:Nat):Int)>=l.length)/\l.getD (((l.idxOf p.2:Nat):Int).toNat) []=p.2:=by
  intro l h;have E:=aEd h;refine⟨by omega,?_⟩;simp[R2,C3 E]
 unfold Sz;by_cases u:p.2=aU
 ·simp[u,zS]
 by_cases z:p.2∈peer
 ·obtain⟨B,C⟩:=D peer z;simp only[u,z,ZN,ZH,zS];rw[VN (by decide),VN (by decide)];simp only[show¬(1:Int)=2 by decide,ZN,B,C]
 by_cases A:p.2∈XR
 ·obtain⟨B,C⟩:=D XR A;simp only[u,z,A,ZN,ZH,zS];rw[VN (by decide),VN (by decide)];simp only[ZH,B,C,ZN]
 ·simp[u,z,A,zS]
def news(l:List Pt)(peer:List aR):List Pt:=l.filter fun p=> !same p peer
theorem CT(l:List Pt)(peer XR:List aR):XD peer XR (YN l peer XR)=(news l peer,[]):=by
 unfold XD;have h:∀(l:List Pt) (i:Nat) (acc:List (Int×aR)×List Int),(((l.map fun p=>Sz p peer XR).zipIdx i).foldl (fun acc x=>Sa peer XR x.1 acc) acc)=(acc.1++l,acc.2):=by
  intro l
  induction l with
  |nil=>intro i acc;simp
  |cons x l u=>
   intro i acc;rw[D9,aCm,O7,u];unfold Sa;rw[HL,Sb];simp
 unfold YN;rw[h];simp[news]
theorem iv(l:List Pt)(peer XR:List aR)(hl:l.length<=1000)(hh:XR.length<=1000000)(he:XS peer XR=0)(hr:ZQ (peer.length:Int) (-1) l=true):
  pG (YN l peer XR) peer XR=some (news l peer,[],none):=by
 rw[HF _ _ _ (by have:=S6 l peer XR;omega) hh];have:Uq (XS peer XR) peer.length (YN l peer XR)=0:=by
  unfold Uq;rw[he,Iv hr (aDm _)];rfl
 rw[VX this,CT]
def Kg(acc:List aR)(l:List Pt):List aR:=l.foldl (fun acc p=>acc.set p.1.toNat p.2) acc
theorem K1{n:Int}{peer:List aR}:∀{l:List Pt} {prev:Int} {acc:List aR},-1<=prev->ZQ n prev l=true->(∀i:Nat,prev<(i:Int)->acc[i]? =peer[i]?)->Kg acc (news l peer)=Kg acc l
 | [],_,_,_,_,_=>rfl
 |x::l,prev,acc,F,h,z=>by
  simp only[ZQ,B9,oe] at h;have A:=h.1;unfold L6 at A;simp at A;have D:x.1=((x.1.toNat:Nat):Int):=by omega
  cases hs:same x peer with
  |true=>
   have e:news (x::l) peer=news l peer:=by unfold news;simp[hs]
   have C:acc.set x.1.toNat x.2=acc:=by
    have B:peer[x.1.toNat]? =some x.2:=by unfold same at hs;simpa using hs
    rw[<-z x.1.toNat (by omega)] at B;apply yl;intro i;rw[aCr];split
    ·rename_i u;subst u;split
     ·exact B.symm
     ·rename_i E;rw[V4 (by omega)]
    ·rfl
   rw[e,K1 (by omega) h.2 (fun i u=>z i (by omega))];show _=Kg (acc.set _ _) l;rw[C]
  |false=>
   have e:news (x::l) peer=x::news l peer:=by unfold news;simp[hs]
   rw[e];show Kg (acc.set _ _) (news l peer)=Kg (acc.set _ _) l;refine K1 (by omega) h.2 (fun i u=>?_);rw[tc (by omega)];exact z i (by omega)
end Go.ZA
namespace Go.ZA
open Go.Pl
open Go Go.Sw Go.Mo
theorem az{peer XR:List aR}(h1:1<=peer.length)(h2:peer.length<=32)(h3:XR.length<=8)(h4:XR.Nodup):XS peer XR=0:=by
 unfold XS Rz;rw[VN (by omega),VN (by omega),VX h4]
theorem wb{n:Int}{l:List Pt}{peer:List aR}(hr:ZQ n (-1) l=true):∀x∈news l peer,0<=x.1/\x.1<n:=by
 intro x h;have:=I1 hr x (sx.1 h).1;omega
end Go.ZA
namespace Go.VW
open Go.Pl
open Go Go.Sw Go.Mo
def Sc:Nat:=3988292384
def Xw(r:Nat):Nat:=if r % 2=1 then r / 2 ^^^ Sc else r / 2
theorem LZ{r:Nat}(h:r<4294967296):Xw r<4294967296:=by
 unfold Xw;split
 ·have:r / 2 ^^^ Sc<2 ^ 32:=aCe (by omega) (by unfold Sc;omega);simpa using this
 ·omega
def Om:Nat->Nat->Nat
 | 0,r=>r
 |n+1,r=>Xw (Om n r)
theorem Lc{n r:Nat}(h:r<4294967296):Om n r<4294967296:=by
 induction n with
 |zero=>exact h
 |succ n u=>exact LZ u
def zT(r:Nat)(b:Nat):Nat:=Om 8 (r ^^^ b)
theorem Bj{r b:Nat}(h:r<4294967296)(hb:b<256):zT r b<4294967296:=by
 refine Lc ?_;have:r ^^^ b<2 ^ 32:=aCe (by omega) (by omega);simpa using this
def zU(l:List Nat):Nat:=l.foldl zT 4294967295
theorem Hf(l:List Nat)(r:Nat)(h:r<4294967296)(hb:∀b∈l,b<256):l.foldl zT r<4294967296:=by
 induction l generalizing r with
 |nil=>exact h
 |cons b l z=>exact z _ (Bj h (hb b (by simp))) (fun x u=>hb x (by simp[u]))
def Bytes(l:List Int):Prop:=∀x∈l,0<=x/\x<=255
def nat(l:List Int):List Nat:=l.map Int.toNat
theorem Hg{l:List Int}(h:Bytes l):∀b∈nat l,b<256:=by
 intro b u;obtain⟨x,z,rfl⟩:=ah.1 u;have:=h x z;omega
theorem HM(l:List Int)(h:Bytes l)(hl:l.length<=1000000):tM l=some ((4294967295 - zU (nat l):Nat):Int):=by
 unfold tM;rw[show ((4294967295:Int),(0:Int))=(((⟨4294967295,by decide⟩:{r:Nat // r<4294967296}).1:Int),((0:Nat):Int)) from rfl];rw[Be (l:=l) (fun i (r:{r:Nat // r<4294967296})=>((r.1:Int),(i:Int))) ⟨4294967295,by decide⟩ (fun _ x r=> .next ⟨zT r.1 x.toNat % 4294967296,kn _ (by decide)⟩) (fun r=> .VP (r.1:Int)) (by unfold fI;omega)]
 ·have:∀(l:List Int) (i:Nat) (r:{r:Nat // r<4294967296}),Bytes l->sL (fun (_:Nat) (x:Int) (r:{r:Nat // r<4294967296})=>(Step.next ⟨zT r.1 x.toNat % 4294967296,kn _ (by decide)⟩:Step _ (Ex Int Int))) (fun r=> .VP (r.1:Int)) i r l= .VP (((nat l).foldl zT r.1:Nat):Int):=by
   intro l
   induction l with
   |nil=>intro i r _;rfl
   |cons x l I=>
    intro i r z;simp only[sL,nat,D9,O7];have u:=I (i+1) ⟨zT r.1 x.toNat % 4294967296,kn _ (by decide)⟩ (fun y G=>z y (by simp[G]));rw[u];have:=z x (by simp);have e:zT r.1 x.toNat % 4294967296=zT r.1 x.toNat:=L7 (Bj r.2 (by omega));show Ex.VP (((nat l).foldl zT (zT r.1 x.toNat % 4294967296):Nat):Int)=_;rw[e];rfl
  rw[this l 0 _ h];have A:(nat l).foldl zT 4294967295<4294967296:=Hf _ _ (by decide) (Hg h);simp only[out,zU];rw[RE A]
 ·rintro H x L ⟨r,B⟩ rfl;have K:=h x (by simp);obtain⟨b,rfl⟩:∃b:Nat,x=(b:Int):=⟨x.toNat,by omega⟩;have z:b<256:=by omega
  simp only[pK,WR,mU,cM];have C:r ^^^ b<4294967296:=by
   have:r ^^^ b<2 ^ 32:=aCe (by omega) (by omega);simpa using this
  rw[NS B (by omega),show ((((r ^^^ b:Nat):Int)),(0:Int))=(fun i:Nat=>((Om i (r ^^^ b):Int),(i:Int))) 0 from rfl];rw[Uf (fun i:Nat=>((Om i (r ^^^ b):Int),(i:Int))) 8 ((Om 8 (r ^^^ b):Nat):Int) (by unfold fI;omega)]
  ·simp only[Ie,GJ (n:=H.length) (m:=1000000) (by simp at hl;omega) (by omega),j5];rw[L7 (Bj B z)];rfl
  ·intro i F;have A:=Lc (n:=i) C;have D:cm .lss (i:Int) 8=true:=by simp[cm];omega
   have E:(Om i (r ^^^ b)) / 2<4294967296:=by omega
   simp only[D,WR,TB,RC A,RD (kn _ (by decide:0<2))];rw[NS E (by split<;>decide),GJ (n:=i) (m:=8) F (by omega)];simp only[Om,Xw,Sc];split
   ·rename_i u;simp[u]
   ·rename_i u;simp[u]
  ·simp[cm]
 ·rintro⟨r,B⟩;simp[dQ]
end Go.VW
namespace Go.VW
open Go.Pl
open Go Go.Sw Go.Mo
abbrev fG:=Int×List Int×List aR
def yM(x:Int):Bool:=decide (x<0) || decide (x>2147483647)
def dU(f:fG):Int:=if f.1<0\/f.1>15 then 1 else if f.2.1.length>12\/f.2.2.length>32 then 2 else if f.2.1.any yM then 1 else 0
theorem Ut{D:Type}(r:Nat->D)(l:List Int):∀i,sL (fun (i:Nat) (x:Int) (_:Unit)=>(if yM x then Step.done (Ex.ret (r i)) else .next ():Step Unit (Ex Unit D))) (fun _=> .VP ()) i () l=match l.findIdx? yM with | some j=> .ret (r (i+j)) | none=> .VP ():=by
 induction l with
 |nil=>intro i;simp[sL]
 |cons x l u=>
  intro i;simp only[sL,List.findIdx?_cons];by_cases h:yM x=true
  ·simp[h]
  ·simp only[h,ZN,u,O5];cases l.findIdx? yM with
   |none=>rfl
   |some j=>simp[aDs,aDe 1]
theorem Uu(l:List Int):l.any yM=(l.findIdx? yM).isSome:=by
 rw[List.findIdx?_isSome]
theorem CU(x:Int):pP x=some (yM x):=by
 unfold pP yM;by_cases h:x<0
 ·have:cm .lss x 0=true:=by simp[cm,h]
  simp[this,h]
 ·have:cm .lss x 0=false:=by simp[cm];omega
  simp[this,h,cm]
theorem Uv(l:List Int)(h:l.length<=1000000):cV l=some (l.any yM):=by
 unfold cV dV;rw[show (0:Int)=((0:Nat):Int) from rfl,Be (l:=l) (fun i (_:Unit)=>(i:Int)) () (fun i x _=>if yM x then .done (.ret (i:Int)) else .next ()) (fun _=> .VP ()) (by unfold fI;omega)]
 ·rw[Ut (fun i=>(i:Int)),Uu];cases l.findIdx? yM<;>simp[out,cm]
 ·rintro u x z acc rfl;simp only[pK,WR,mU,cM,CU,GJ (n:=u.length) (m:=1000000) (by simp at h;omega) (by omega)];cases yM x<;>simp[Ie]
 ·intro _;simp[dQ]
theorem Ey(f:fG):pZ f=some (if dU f=0 then none else some (dU f)):=by
 obtain⟨s,h,u⟩:=f;unfold pZ dU;by_cases z:s<0
 ·have:cm .lss s 0=true:=by simp[cm,z]
  simp[this,z]
 have A:cm .lss s 0=false:=by simp[cm];omega
 by_cases C:s>15
 ·have:cm .gtr s 15=true:=by simp[cm];omega
  simp[A,this,C]
 have D:cm .gtr s 15=false:=by simp[cm];omega
 have E:¬(s<0\/s>15):=by omega
 simp only[A,D,pF,cM,E,ZN];by_cases F:h.length>12
 ·have:cm .gtr (h.length:Int) 12=true:=by simp[cm];omega
  simp[this,F]
 have B:cm .gtr (h.length:Int) 12=false:=by simp[cm];omega
 by_cases G:u.length>32
 ·have:cm .gtr (u.length:Int) 32=true:=by simp[cm];omega
  simp[B,this,G]
 have H:cm .gtr (u.length:Int) 32=false:=by simp[cm];omega
 have I:¬(h.length>12\/u.length>32):=by omega
 simp only[B,H,pF,cM,I,ZN,Uv h (by omega)];cases h.any yM<;>simp
def vf:Nat->Nat->List Int
 | 0,n=>[(n:Int)]
 |k+1,n=>if n<128 then [(n:Int)] else ((128+n % 128:Nat):Int)::vf k (n / 128)
theorem Mx:∀k n,n<128 ^ (k+1)->Bytes (vf k n)/\(vf k n).length<=k+1
 | 0,n,h=>by
  simp at h;exact⟨fun x u=>by simp[vf] at u;omega,by simp[vf]⟩
 |k+1,n,h=>by
  unfold vf;split
  ·exact⟨fun x u=>by simp at u;omega,by simp⟩
  ·have z:n / 128<128 ^ (k+1):=by rw[aEe] at h;omega
   obtain⟨A,B⟩:=Mx k (n / 128) z;refine⟨fun x u=>?_,by simp;omega⟩;rcases j4.1 u with rfl | u
   ·have:=kn n (by decide:0<128);omega
   ·exact A x u
theorem Qg{γ:Type}{step:Int×List Int->Option (Step (Int×List Int) (Ex (Int×List Int) γ))}
  (h1:∀(n:Nat) acc,128<=n->n<34359738368->acc.length<=1000000->step ((n:Int),acc)=some (.next (((n / 128:Nat):Int),acc++[((128+n % 128:Nat):Int)])))
  (h2:∀(n:Nat) acc,n<128->step ((n:Int),acc)=some (.done (.VP ((n:Int),acc)))):
  ∀(k n:Nat) (acc:List Int) (f:Nat),n<128 ^ (k+1)->n<34359738368->acc.length+k<=1000000->k<f->∃(m:Nat) (WS:List Int),loop step f ((n:Int),acc)=some (.VP ((m:Int),WS))/\m<128/\WS++[(m:Int)]=acc++vf k n
 | 0,n,acc,f,h,_,_,C=>by
  obtain⟨f,rfl⟩:∃f',f=f'+1:=⟨f - 1,by omega⟩;simp at h;exact⟨n,acc,by simp[loop,h2 n acc h],h,rfl⟩
 |k+1,n,acc,f,h,D,E,C=>by
  obtain⟨f,rfl⟩:∃f',f=f'+1:=⟨f - 1,by omega⟩;by_cases u:n<128
  ·exact⟨n,acc,by simp[loop,h2 n acc u],u,by simp[vf,u]⟩
  ·obtain⟨m,WS,z,A,B⟩:=Qg h1 h2 k (n / 128) (acc++[((128+n % 128:Nat):Int)]) f (by rw[aEe] at h;omega) (by omega) (by simp;omega) (by omega);refine⟨m,WS,?_,A,?_⟩
   ·simp only[loop,h1 n acc (by omega) D (by omega)];exact z
   ·rw[B];simp[vf,u]
theorem TC:∀a:Fin 256,ar .or .u8 ((a.1:Nat):Int) 128=((128+a.1 % 128:Nat):Int):=by decide+kernel
theorem Cz(n:Nat):IntKind.wrap .u8 (n:Int)=((n % 256:Nat):Int):=by
 simp[IntKind.wrap,IntKind.signed,IntKind.bits]
theorem TD(n:Nat):sh .shr .i64 (n:Int) 7=((n / 128:Nat):Int):=by
 show Int.fdiv _ _=_;have:(2:Int) ^ min (7:Int).toNat (IntKind.bits .i64)=128:=by decide
 rw[this,ug _ (by omega)];omega
theorem HN:∀s:Fin 16,∀n:Fin 13,ar .or .u8 (sh .shl .u8 (IntKind.wrap .u8 (s.1:Int)) 4) (IntKind.wrap .u8 (n.1:Int))=IntKind.wrap .u8 (ar .add .i64 (ar .mul .i64 16 (s.1:Int)) (n.1:Int)):=by decide+kernel
def Hh(f:fG):List Int:=[IntKind.wrap .u8 (ar .add .i64 (ar .mul .i64 16 f.1) (f.2.1.length:Int)),IntKind.wrap .u8 (f.2.2.length:Int)]
def vs(ns:List Int):List Int:=ns.flatMap fun n=>vf 4 n.toNat
def body(f:fG):List Int:=Hh f++vs f.2.1++f.2.2.flatten
def o7(v:Nat):List Int:=[((v / 16777216:Nat):Int),((v / 65536 % 256:Nat):Int),((v / 256 % 256:Nat):Int),((v % 256:Nat):Int)]
def bQ(f:fG):List Int:=body f++o7 (4294967295 - zU (nat (body f)))
theorem A1{α A B β γ:Type}{step:α->Option (Step α (Ex β γ))}{l:List A}{k:β->Option γ}(st:Nat->B->α)(I:Nat->B->Prop)(YB:B)(g:Nat->A->B->B)(fin:B->β)(hf:l.length<fI)(h0:I 0 YB)
  (hs:∀pre x rest acc,l=pre++x::rest->I pre.length acc->step (st pre.length acc)=some (.next (st (pre.length+1) (g pre.length x acc)))/\I (pre.length+1) (g pre.length x acc))
  (he:∀acc,I l.length acc->step (st l.length acc)=some (.done (.VP (fin acc)))):
  lp step (st 0 YB) k=k (fin ((l.zipIdx).foldl (fun acc x=>g x.2 x.1 acc) YB)):=by
 have C:∀(rest pre:List A) (acc:B) (f:Nat),l=pre++rest->I pre.length acc->rest.length<f->loop step f (st pre.length acc)=some (.VP (fin ((rest.zipIdx pre.length).foldl (fun acc x=>g x.2 x.1 acc) acc))):=by
  intro rest
  induction rest with
  |nil=>
   intro pre acc f u z hf;obtain⟨f,rfl⟩:∃f',f=f'+1:=⟨f - 1,by simp at hf;omega⟩;have:=he acc (by rw[u,V2];exact z);rw[u,V2] at this;simp[loop,this]
  |cons x rest F=>
   intro pre acc f u z hf;obtain⟨f,rfl⟩:∃f',f=f'+1:=⟨f - 1,by simp at hf;omega⟩;obtain⟨D,E⟩:=hs pre x rest acc u z;simp only[loop,D];have:=F (pre++[x]) (g pre.length x acc) f (by rw[u];simp) (by simpa using E) (by simp at hf;omega);simpa using this
 have h:=C l [] YB fI rfl h0 hf;unfold lp;simp only[V1] at h;rw[h]
theorem YR{A:Type}(w:A->List Int):∀(l:List A) (i:Nat) (acc:List Int),(l.zipIdx i).foldl (fun acc x=>acc++w x.1) acc=acc++l.flatMap w
 | [],_,acc=>by simp
 |x::l,i,acc=>by simp[YR w l]
end Go.VW
namespace Go.VW
open Go.Pl
open Go Go.Sw Go.Mo
theorem UQ{α:Type}(xs ys:List α)(h:xs.length+ys.length<=4294967296):Sw.app xs ys=some (xs++ys):=by unfold Sw.app;rw[VX h]
end Go.VW
