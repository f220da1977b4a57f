/- The library over the model: how values lie, what is ours in memory, rules for operations, calls, loops. What the functions come to, as plain functions. Plain laws about these plain functions alone. Conditions: none. -/
import Derived.Test.YteckohdbfkhmdadGreatDoorMBTopNaive
import Derived.KernelRfl
set_option linter.unusedVariables false
set_option linter.unusedSimpArgs false
namespace Go.Sw
open Go Go.RowKit
def del{α:Type}(xs:List α)(lo hi:Int):Option (List α):=(sub xs lo hi).bind fun _=>some (xs.take lo.toNat++xs.drop hi.toNat)
section
variable {F:XO}{σ:AS}{pb:Option Nat}{d:Option Tmp}{ty:TypeId}{p:String}{af:Array Edge}{gd:Option (Nat×Bool)}{x y z:Operand}
theorem lP{g:Nat}:JO F ⟨d,.assign (.func g),ty,p,af,gd⟩ σ (.j2 g []) []:=
 fun ρ S a w _=>WB.value (w':=w) (v:= .func (.func g) #[] #[]) (by simp[execOp,Act.eval]) (YC.same (GY g ρ S w))
def bc(σ:AS)(xs:List Operand)(ss:List Slot):Prop:=
 ∀(F:XO) (ρ:Nat->LV) (a:Act) (w:World),Core F σ.d ρ w->(∀t s,lk σ.g t=some s->s.ok ρ (Un F.S0 ρ σ.d) w (a.tmps.getD t undef))->aW ρ (Un F.S0 ρ []) w ss (xs.map a.eval)
theorem bc.nil:bc σ [] []:=fun _ _ _ _ _ _=>by simp[aW]
theorem bc.cons{s s':Slot}{xs:List Operand}{l:List Slot}(hx:dF σ.g x=some s)(h:br σ id [] s s')(k:bc σ xs l):bc σ (x::xs) (s'::l):=by
 intro F ρ a w l5 hs
 have A:Ext (Un F.S0 ρ σ.d) (Un F.S0 (fun i=>ρ (id i)) []) w w:=⟨YZ _,fun q _ C=>⟨rfl,fun h=>C (by
  rcases h with h |⟨i,z,h,_⟩
  ·exact .inl h
  ·simp[aX] at h)⟩⟩
 have B:=(br.spec (d':=[]) (r:=id) l5 A (fun j z D _ b E u=>by
  rcases u with u |⟨i,z,u,_⟩
  ·exact l5.apart j z b D E u
  ·simp[aX] at u) h).1 _ (Ki hs hx)
 simp only[H9,aW];exact⟨_,_,rfl,B,k F ρ a w l5 hs⟩
theorem DS{f:FuncId}{xs:List Operand}{ts:Array TypeId}{ss:List Slot}{res:Slot}(hc:WL F.P f ss res [])(YE:∀args w,(callFunc f args).run F.P w= .ok (.enter f args) w)
  (ha:bc σ xs ss) (hf:YF res) (hd:gQ d F.N=true):JM F ⟨d,.call ⟨.value (.func f),xs.toArray,ts⟩,ty,p,af,gd⟩ σ ⟨iR d res σ.g,σ.d⟩:=by
 rintro a w ⟨⟨ρ,u,A⟩,C,D⟩;refine WB.enter (uI YE) ?_;have B:∀k,Un F.S0 ρ [] k->k<w.heap.size:=by
  rintro k (h |⟨i,z,h,_⟩)
  ·exact T4 (u.low k h) u.size
  ·simp[aX] at h
 refine(hc (Un F.S0 ρ []) w _ ρ B (ha F ρ a w u A)).mono ?_;rintro e K ⟨v,rfl,ρ',E,G,H,L⟩;refine⟨v,rfl,?_⟩;have:=St.put (dst:=d) u A C D rfl hd ⟨ρ',E,G,hf _ _ _ _ _ H,⟨fun i z h=>by simp[aX] at h,fun i z b h=>by simp[aX] at h,fun i j z I b h=>by simp[aX] at h⟩⟩;cases d with
 |none=>exact this
 |some t=>exact this
end
section
variable {F:XO}{ops:Array Oper}{OK:List (Nat×WA)->Prop}{os:List Oper}{σ σ':AS}{its:List ZO}{d:Option Tmp}{ty:TypeId}{p:String}{af:Array Edge}{gd:Option (Nat×Bool)}{x y z:Operand}{α:Type}{e:Wr α}{T:TypeId}{i:Nat}
theorem XZ.aVr{xs ys:List α}{lo:Int}{k:IntKind}{U E:TypeId}(g:GK ops σ.g ⟨d,.slice U x (some y) none none,ty,p,af,gd⟩ true)(j:Nat)(hs:Sw.sub xs lo (xs.length:Int)=some ys)(hx:dF σ.g x=some (.ref i))(he:aX σ.d i=some (.arr T e xs))(hy:dF σ.g y=some (.v (Wr.int k) lo))
  (hU:∀w,(underlying U).run F.P w= .ok (.slice E) w) (hE:∀w,(sizeOf E).run F.P w= .ok e.n w) (_:σ.free [(j,.arr T e ys)]=true) (hd:gQ d F.N=true) (q:XZ F ops OK os ⟨iR d (.ref j) σ.g,(j,.arr T e ys)::wK σ.d i⟩ its σ'):
  XZ F ops OK (⟨d,.slice U x (some y) none none,ty,p,af,gd⟩::os) σ (⟨.ref j,[(j,.arr T e ys)],[(j,.arr T e ys)],Ld σ.g ⟨d,.slice U x (some y) none none,ty,p,af,gd⟩,[i]⟩::its) σ':=
 .mv (nw:=[(j,.arr T e ys)]) (dl:=[i]) g hd (fun σ2 h u=>MJ j hs ((h.ev (by simp[Op.operands])).trans hx) ((h.C6 (x:=x) (by simp[Op.operands]) hx (by simp[Slot.YS])).trans he) ((h.ev (by simp[Op.operands])).trans hy) hU hE u hd) q
theorem XZ.lr{f:FuncId}{xs:List Operand}{ts:Array TypeId}{ss:List Slot}{res:Slot}(g:GK ops σ.g ⟨d,.call ⟨.value (.func f),xs.toArray,ts⟩,ty,p,af,gd⟩ true)(ex:List Nat)(hc:WL F.P f ss res [])(YE:∀args w,(callFunc f args).run F.P w= .ok (.enter f args) w)
  (ha:∀σ2,Loc ops ⟨d,.call ⟨.value (.func f),xs.toArray,ts⟩,ty,p,af,gd⟩ σ σ2->(∀l∈ex,aX σ2.d l=aX σ.d l)->bc σ2 xs ss) (hf:YF res) (hd:gQ d F.N=true) (k:XZ F ops OK os ⟨iR d res σ.g,σ.d⟩ its σ'):
  XZ F ops OK (⟨d,.call ⟨.value (.func f),xs.toArray,ts⟩,ty,p,af,gd⟩::os) σ (⟨res,[],[],Ld σ.g ⟨d,.call ⟨.value (.func f),xs.toArray,ts⟩,ty,p,af,gd⟩++ex,[]⟩::its) σ':=
 .mvx (nw:=[]) (fr:=[]) (dl:=[]) (ex:=ex) g hd (fun σ2 h u _=>DS hc YE (ha σ2 h u) hf hd) k
end
end Go.Sw
namespace Go.Sw
open Go Go.RowKit
theorem DT{α:Type}{xs r:List α}{lo hi:Int}(h:del xs lo hi=some r):∃A M B,xs=A++(M++B)/\lo=(A.length:Int)/\hi=((A.length+M.length:Nat):Int)/\r=A++B:=by
 unfold del at h;cases hs:sub xs lo hi with
 |none=>rw[hs] at h;cases h
 |some v=>
  rw[hs] at h;simp only[cM,B1] at h;subst h;obtain⟨z,C,D,_⟩:=gU hs;have u:xs.drop lo.toNat=(xs.take hi.toNat).drop lo.toNat++xs.drop hi.toNat:=by
   conv=>lhs;rw[<-ak hi.toNat xs]
   rw[List.drop_append_of_le_length (by rw[E9];omega)]
  refine⟨xs.take lo.toNat,(xs.take hi.toNat).drop lo.toNat,xs.drop hi.toNat,by rw[<-u,ak],?_,?_,rfl⟩
  ·rw[E9];omega
  ·rw[E9,V8,E9];omega
theorem MS{α:Type}(A M B:List α):sub (A++(M++B)) (A.length:Int) ((A.length+M.length:Nat):Int)=some M:=by
 have h:(A++(M++B)).length=A.length+(M.length+B.length):=by simp only[sM]
 rw[sub,XC (by omega),p6,p6,<-E0,List.take_left' (by rw[sM]),rf]
section
variable {F:XO}{σ:AS}{d:Option Tmp}{ty:TypeId}{p:String}{af:Array Edge}{gd:Option (Nat×Bool)}{x y z u:Operand}{α:Type}{e:Wr α}{T U:TypeId}{i b:Nat}
theorem MT{xs ys:List α}{lo hi mx:Int}{k k' k2:IntKind}{E:TypeId}(hs:Sw.sub xs lo hi=some ys)(hm:mx=(xs.length:Int))(hx:dF σ.g x=some (.ref i))(he:aX σ.d i=some (.arr T e xs))(hy:dF σ.g y=some (.v (Wr.int k) lo))(hz:dF σ.g z=some (.v (Wr.int k') hi))(hu:dF σ.g u=some (.v (Wr.int k2) mx))
  (hU:∀w,(underlying U).run F.P w= .ok (.slice E) w) (hE:∀w,(sizeOf E).run F.P w= .ok e.n w):JO F ⟨d,.slice U x (some y) (some z) (some u),ty,p,af,gd⟩ σ (.sub i (lo.toNat*e.n) (hi.toNat - lo.toNat)) []:=by
 subst hm;intro ρ S a w K;obtain⟨A,C,R,h2,B,V⟩:=Uu K (x:=x) (by simp[Op.operands]) hx he;have D:=(fX K (x:=y) (by simp[Op.operands]) hy).1;have G:=(fX K (x:=z) (by simp[Op.operands]) hz).1;have H:=(fX K (x:=u) (by simp[Op.operands]) hu).1;obtain⟨X,s1,s2,_⟩:=gU hs;have I:(Instr.sliceBounds true xs.length C (some (.int k lo)) (some (.int k' hi)) (some (.int k2 (xs.length:Int)))).run F.P w= .ok (lo.toNat,hi.toNat,xs.length) w:=by
  have L:(xs.length:Int)<=(C:Int):=by omega
  have M:0<=hi:=by omega
  have N:lo<=(hi.toNat:Int):=by omega
  have O:(0:Int)<=(xs.length:Int):=by omega
  simp only[Instr.sliceBounds,Instr.sliceBound,asIntOf,Sem.run_bind,Sem.run_pure,Result.andThen_ok,X,L,M,N,O,s2,p6,and_self,l6]
 refine WB.value (w':=w) (v:= .slice (if xs.length=lo.toNat then A else A.map (·.add (lo.toNat*e.n))) (hi.toNat - lo.toNat) (xs.length - lo.toNat)) ?_ (YC.same ?_)
 ·simp[execOp,Instr.sliceAt,Instr.slice,R,D,G,H,hU,hE,I]
 ·have Q:∀q,A=some q->q.spot=none:=by
   rintro q rfl;rcases V with⟨_,h⟩|⟨b',N2,aa,cs,ab,h,_⟩
   ·rw[B] at h;cases h
   ·rw[B] at h;simp only[Value.slice.injEq,B1] at h;rw[h.1]
  simp only[Slot.ok];rw[B];refine⟨⟨_,_,_,rfl⟩,xs.length - lo.toNat,if xs.length=lo.toNat then 0 else lo.toNat*e.n,by omega,?_,?_⟩
  ·split
   ·right;omega
   ·exact .inl rfl
  ·cases A with
   |none=>split<;>rfl
   |some q=>
    obtain⟨b',o',sp⟩:=q;have:=Q _ rfl;simp only at this;subst this;split
    ·rfl
    ·simp[Ug,Addr.add_lit]
theorem Vh{o n c m:Nat}{lo:Int}{k:IntKind}{E:TypeId}(n':Nat)(J0:n'=0)(hlo:lo=(m:Int))(hm:m=n)(hmc:m=c)(hx:dF σ.g x=some (.y9 i o 0 n c))(hy:dF σ.g y=some (.v (Wr.int k) lo))
  (hU:∀w,(underlying U).run F.P w= .ok (.slice E) w) (hE:∀w,(sizeOf E).run F.P w= .ok e.n w):JO F ⟨d,.slice U x (some y) none none,ty,p,af,gd⟩ σ (.y9 i o 0 n' 0) []:=by
 subst hlo hm hmc J0;intro ρ S a w K;obtain⟨b,z,A⟩:=rT (K.slot x (by simp[Op.operands]) _ hx);have h:=(fX K (x:=y) (by simp[Op.operands]) hy).1;refine WB.value (w':=w) ?_ (YC.same (Nc z));have u:=Dh (P:=F.P) (w:=w) (len:=m) (cap:=m) (k:=k) (lo:=(m:Int)) (by omega) (by omega);simp[execOp,Instr.sliceAt,Instr.slice,A,h,hU,hE,u]
theorem Kq{o n c m m2:Nat}{lo hi:Int}{k k':IntKind}{E:TypeId}(o' n' c':Nat)(hlo:lo=(m:Int))(hhi:hi=(m2:Int))(hm:m<=m2)(hmc:m<c)(hm2:m2<=c)(ho:o'=o+m*e.n)(J0:n'=m2 - m)(R0:c'=c - m)(hx:dF σ.g x=some (.y9 i o 0 n c))(hy:dF σ.g y=some (.v (Wr.int k) lo))(hz:dF σ.g z=some (.v (Wr.int k') hi))
  (hU:∀w,(underlying U).run F.P w= .ok (.slice E) w) (hE:∀w,(sizeOf E).run F.P w= .ok e.n w):JO F ⟨d,.slice U x (some y) (some z) none,ty,p,af,gd⟩ σ (.y9 i o' 0 n' c') []:=by
 subst hlo hhi ho J0 R0;intro ρ S a w K;obtain⟨b,C,D⟩:=rT (K.slot x (by simp[Op.operands]) _ hx);have h:=(fX K (x:=y) (by simp[Op.operands]) hy).1;have u:=(fX K (x:=z) (by simp[Op.operands]) hz).1;refine WB.value (w':=w) ?_ (YC.same (Nc C));have A:=DD (P:=F.P) (w:=w) (len:=n) (cap:=c) (k:=k) (k':=k') (lo:=(m:Int)) (hi:=(m2:Int)) (by omega) (by omega) (by omega);have B:¬(c=m):=by omega
 simp[execOp,Instr.sliceAt,Instr.slice,D,h,u,hU,hE,A,B,Addr.add_lit]
theorem Nn{o n c:Nat}{E:TypeId}(hx:dF σ.g x=some (.y9 i o 0 n c))(hU:∀w,(underlying U).run F.P w= .ok (.slice E) w)(hc:n<=9223372036854775807):JO F ⟨d,.call ⟨.builtin .len,#[x],#[U]⟩,ty,p,af,gd⟩ σ (.v (Wr.int .i64) (n:Int)) []:=by
 intro ρ S a w K;obtain⟨b,u,h⟩:=rT (K.slot x (by simp[Op.operands,Call.operands]) _ hx);refine WB.value (w':=w) (v:= .int .i64 (n:Int)) ?_ (YC.same (tK (De hc) _ _ _));simp[execOp,resolve,invoke,builtin,h,Hi hU]
theorem Qx{pp q c o2 c2:Nat}{A M B:List α}{E:TypeId}(he:aX σ.d i=some (.dp (DE.M4 E e b) [.any pp,.rows A,.rows (M++B),.any q] []))(hx:dF σ.g x=some (.y9 i pp 0 A.length c))(hy:dF σ.g y=some (.y9 i o2 0 B.length c2))
  (yw:B=[]\/o2=pp+(A.length+M.length)*e.n) (M7:A.length+B.length<=c)
  (hU:∀w,(underlying U).run F.P w= .ok (.slice E) w) (hE:∀w,(sizeOf E).run F.P w= .ok e.n w) (hd:gQ d F.N=true):
  JM F ⟨d,.call ⟨.builtin .append,#[x,y],#[U,U]⟩,ty,p,af,gd⟩ σ ⟨iR d (.y9 i pp 0 (A.length+B.length) c) σ.g,(i,.dp (DE.M4 E e b) [.any pp,.rows A,.rows B,.rows [],.any (M.length*e.n+q)] [])::σ.d⟩:=by
 rintro a w ⟨⟨ρ,hc,hs⟩,r8,ZG⟩;have K:=cK hc hs (Op.call ⟨.builtin .append,#[x,y],#[U,U]⟩).operands;obtain⟨b1,g1,X⟩:=rT (K.slot x (by simp[Op.operands,Call.operands]) _ hx);obtain⟨b2,g3,Q⟩:=rT (K.slot y (by simp[Op.operands,Call.operands]) _ hy);obtain⟨H,cs,I,h,_,rfl,C,ca,_,rfl,k4,R,_,rfl,k5,S,_,rfl,C9,rfl⟩:=Uw hc he;have e1:b1=b:=by rw[H] at g1;cases g1;rfl
 have e2:b2=b:=by rw[H] at g3;cases g3;rfl
 rw[e1] at X;rw[e2] at Q;have C:h.length=pp:=C;have C9:S.length=q:=C9;have L:=cR k4;have V0:=cR k5;have an:M.length*e.n<=R.length:=by rw[V0,sM,L6];omega
 obtain⟨cm,cb,rfl,hm,kb⟩:∃cm cb,R=cm++cb/\cm.length=M.length*e.n/\e.ZK B (Un F.S0 ρ σ.d) w cb:=by
  refine⟨R.take (M.length*e.n),R.drop (M.length*e.n),(ak _ _).symm,by rw[E9];omega,?_⟩;have:=wB M.length k5
  rwa [rf] at this
 have O:=cR kb;obtain⟨rest,l3⟩:∃rest,rest=cm++(cb++S):=⟨_,rfl⟩
 have V:rest.length=M.length*e.n+(B.length*e.n+q):=by rw[l3];simp only[sM];omega
 have ov:h++(ca++(cm++cb++(S++[])))=h++ca++rest:=by rw[l3];simp
 rw[ov] at I;have fin:∀w',(execOp a.eval ⟨d,.call ⟨.builtin .append,#[x,y],#[U,U]⟩,ty,p,af,gd⟩).run F.P w= .ok (.value (.slice (some ⟨b,pp,none⟩) (A.length+B.length) c)) w'->bp b w w'->
   (∃T,T.length=M.length*e.n+q/\w'.heap[b]? =some (.cells (h++ca++(cb++T)).toArray E (0,0)))->
   WB F.P ⟨d,.call ⟨.builtin .append,#[x,y],#[U,U]⟩,ty,p,af,gd⟩ a w fun v w'=>St F ⟨iR d (.y9 i pp 0 (A.length+B.length) c) σ.g,(i,.dp (DE.M4 E e b) [.any pp,.rows A,.rows B,.rows [],.any (M.length*e.n+q)] [])::σ.d⟩ (a.put d v) w':=by
  rintro w' D hu ⟨T,ah,am⟩;refine WB.value D ?_;obtain⟨q1,q2⟩:=hc.upd (en':= .dp (DE.M4 E e b) [.any pp,.rows A,.rows B,.rows [],.any (M.length*e.n+q)] []) he (.inl (by rw[H];rfl)) hu fun hE=>⟨H,_,am,h,_,by simp,C,ca,_,rfl,Wr.WE k4 hE,cb,_,rfl,Wr.WE kb hE,[],_,rfl,rfl,T,[],rfl,ah,rfl⟩
  have aa:∀t s,lk σ.g t=some s->s.ok ρ (Un F.S0 ρ ((i,.dp (DE.M4 E e b) [.any pp,.rows A,.rows B,.rows [],.any (M.length*e.n+q)] [])::σ.d)) w' (a.tmps.getD t undef):=fun t s z=>Slot.VX s _ (hs t s z) q2 (fun _ _=>rfl);refine⟨⟨ρ,q1,fun t s z=>?_⟩,by rw[kZ,r8],by cases d<;>exact ZG⟩;cases d with
  |none=>exact aa t s z
  |some q0=>
   simp only[iR] at z;have XI:q0<a.tmps.size:=by rw[r8];exact B3 hd
   rw[lA a q0 _ t XI];rw[mG] at z;split at z
   ·rename_i G;cases z;rw[XC G];exact Nc H
   ·rename_i G;rw[WV G];exact aa t s z
 by_cases hB:B=[]
 ·subst hB;have ab:cb=[]:=iw (by simpa using O);refine fin w ?_ ⟨rfl,fun _ _=>rfl,rfl,rfl,rfl⟩ ⟨rest,by rw[V];simp,by rw[ab];exact I⟩;have D:=tU (P:=F.P) (w:=w) (U:=U) (E:=E) (tt:=ty) (n:=e.n) (base:=some ⟨b,pp,none⟩) (ad:=some ⟨b,o2,none⟩) (l:=A.length) (c:=c2) (cap:=c) hU hE (by simpa using M7);simp only[X3] at Q;simp[execOp,resolve,invoke,builtin,X,Q,D]
 ·have yw:=yw.resolve_left hB;subst yw;have M9:∀j u,cb[j]? =some u->w.cell? ((⟨b,pp+(A.length+M.length)*e.n,none⟩:Addr).add j)=some u:=by
   have ac:WK w b (h.length+(ca++cm).length) cb:=by
    have G:=WK.of_heap I;have e3:h++ca++rest=(h++(ca++cm))++(cb++S):=by rw[l3];simp
    rw[e3] at G;have:=G.sub;simpa using this
   intro j u hj;have:=ac.cell j u hj
   rwa [C,sM,L,hm,<-L6] at this
  have P7:pp+A.length*e.n+cb.length<=(h++ca++rest).length:=by simp only[sM,C,L,V,O];omega
  have D:=Fv (P:=F.P) (w:=w) (U:=U) (E:=E) (tt:=ty) (n:=e.n) (g:=b) (off:=pp) (l:=A.length) (cap:=c) (m:=B.length) (c:=c2) (cur:=h++ca++rest) (a:=⟨b,pp+(A.length+M.length)*e.n,none⟩) (news:=cb) hU hE I O M9 (Lu kb) M7 P7;have z:(h++ca++rest).take (pp+A.length*e.n)=h++ca:=by
   have:pp+A.length*e.n=(h++ca).length:=by rw[sM,C,L]
   rw[this];exact aCo
  have JF:(h++ca++rest).drop (pp+A.length*e.n+cb.length)=rest.drop cb.length:=by
   have:pp+A.length*e.n=(h++ca).length:=by rw[sM,C,L]
   rw[this,<-aDz,rf]
  rw[z,JF,E0] at D;refine fin _ ?_ (bp.setRow w b _) ⟨rest.drop cb.length,by rw[V8,V,O];omega,setRow_heap w b _ _ E _ I⟩;simp[execOp,resolve,invoke,builtin,X,Q,D]
theorem Kr{pp q o k c:Nat}{A B:List α}{z0:Value}{zv:α}{E:TypeId}(he:aX σ.d i=some (.dp (DE.M4 E e b) [.any pp,.rows A,.rows B,.rows [],.any q] []))(hx:dF σ.g x=some (.y9 i o 0 k c))
  (ho:o=pp+(A.length+B.length)*e.n) (hk:k*e.n<=q) (qw:0<k)
  (hU:∀w,(underlying U).run F.P w= .ok (.slice E) w) (hZ:∀w,(zeroValue E).run F.P w= .ok z0 w) (hz:∀S w,e.ok zv S w z0.cells.toList):
  JM F ⟨none,.call ⟨.builtin .clear,#[x],#[U]⟩,ty,p,af,gd⟩ σ ⟨σ.g,(i,.dp (DE.M4 E e b) [.any pp,.rows A,.rows B,.rows [],.any q] [])::σ.d⟩:=by
 subst ho;rintro a w ⟨⟨ρ,T,hs⟩,r8,ZG⟩;have K:=cK T hs (Op.call ⟨.builtin .clear,#[x],#[U]⟩).operands;obtain⟨b1,g1,g2⟩:=rT (K.slot x (by simp[Op.operands,Call.operands]) _ hx);obtain⟨O,cs,Q,h,_,rfl,G,z,_,rfl,k4,C,_,rfl,k5,c0,_,rfl,k6,post,_,rfl,H,rfl⟩:=Uw T he;have e1:b1=b:=by rw[O] at g1;cases g1;rfl
 rw[e1] at g2;have G:h.length=pp:=G;have H:post.length=q:=H;have Z9:=cR k4;have V0:=cR k5;have h0:c0=[]:=k6;subst h0;have V:z0.cells.size=e.n:=by have:=e.len (hz (fun _=>False) w);simpa using this
 obtain⟨news,R⟩:∃news,news=(Builtin.zeroCells z0.cells k).toList:=⟨_,rfl⟩
 have X:news.length=k*e.n:=by rw[R,bo,size_zeroCells,V]
 have D1:∀u∈news,u.oneCell'=true:=rM (Er (hz (fun _=>False) w) k news X fun i hi=>by rw[R];exact Bj (by rw[V];exact hi));obtain⟨D,ov⟩:∃D,D=h++(z++(C++([]++(post++[])))):=⟨_,rfl⟩
 rw[<-ov] at Q;have I:D=(h++(z++C))++post:=by rw[ov];simp
 have L:pp+(A.length+B.length)*e.n=(h++(z++C)).length:=by simp only[sM,G,Z9,V0,L6]
 have P7:pp+(A.length+B.length)*e.n+news.length<=D.length:=by rw[I,sM,<-L,X];omega
 have M:=run_storeCells_at F.P b (pp+(A.length+B.length)*e.n) E news 0 D.toArray w Q (by simpa using P7) D1;simp only[aDg] at M;have N:D.take (pp+(A.length+B.length)*e.n)=h++(z++C):=by rw[I,L];exact aCo
 have JF:D.drop (pp+(A.length+B.length)*e.n+news.length)=post.drop news.length:=by rw[I,L,<-aDz,rf]
 rw[N,JF] at M;have YX:(Builtin.clear_ #[U] ty #[.slice (some ⟨b,pp+(A.length+B.length)*e.n,none⟩) k c]).run F.P w= .ok (.tuple #[]) (w.setRow b (h++(z++C)++news++post.drop news.length).toArray):=by
  obtain⟨n',rfl⟩:∃n',k=n'+1:=⟨k - 1,by omega⟩
  simp[Builtin.clear_,hU,hZ,<-R,M]
 refine WB.value (v:= .tuple #[]) (w':=w.setRow b (h++(z++C)++news++post.drop news.length).toArray) (by simp[execOp,resolve,invoke,builtin,g2,YX]) ?_;obtain⟨q1,q2⟩:=T.upd (en':= .dp (DE.M4 E e b) [.any pp,.rows A,.rows B,.rows [],.any q] []) he (.inl (by rw[O];rfl)) (bp.setRow w b _) fun hE=>⟨O,_,setRow_heap w b _ (h++(z++C)++news++post.drop news.length).toArray E _ Q,h,_,by simp,G,z,_,rfl,Wr.WE k4 hE,C,_,rfl,Wr.WE k5 hE,[],_,rfl,rfl,news++post.drop news.length,[],rfl,(by show (news++post.drop news.length).length=q;simp only[sM,V8,H];omega),rfl⟩
 exact⟨⟨ρ,q1,fun t s N=>Slot.VX s _ (hs t s N) q2 (fun _ _=>rfl)⟩,r8,ZG⟩
end
end Go.Sw
namespace Go.Sw
open Go Go.RowKit
theorem VZ.aWa{P:Program}{f:FuncId}{ss:List Slot}{vs:List Value}{w:World}{v:Value}{go:Obj}{G:Nat}(hc:VZ P f ss [(G,.dp (dR v) go [])] (.v Wr.bool true) [(G,.dp (dR v) go [])])
  (hg:w.cell? ⟨0,0,none⟩=some v) (ho:w.heap[0]? =some go) (hv:aW (fun _=> .of (.pointer (some ⟨0,0,none⟩))) (fun k=>k=0) w ss vs):
  Calls P f vs.toArray w fun e w'=>e= .returned (.bool true)/\Below w.heap.size w w':=by
 have M:0<w.heap.size:=(aBn.1 ho).1;have A:∀k,mR (fun _=>LV.of (.pointer (some ⟨0,0,none⟩))) [(G,.dp (dR v) go [])] k↔k=0:=by
  intro k;constructor
  ·rintro⟨i,z,_,h⟩;rcases h with h | h
   ·exact(pT h).symm
   ·exact h.elim
  ·rintro rfl;exact⟨G,.dp (dR v) go [],by rw[cN];simp,.inl rfl⟩
 have E:Un (fun _=>False) (fun _=>LV.of (.pointer (some ⟨0,0,none⟩))) [(G,.dp (dR v) go [])]=fun k=>k=0:=by
  funext k;exact propext ⟨fun h=>h.elim False.elim (fun h=>(A k).1 h),fun h=> .inr ((A k).2 h)⟩
 have B:∀i z,aX [(G,WA.dp (dR v) go [])] i=some z->i=G/\z=WA.dp (dR v) go []:=by
  intro i z h;rw[cN] at h;split at h
  ·rename_i e;exact⟨e.symm,(pT h).symm⟩
  ·cases h
 refine Calls.mono (hc (fun _=>False) w vs (fun _=> .of (.pointer (some ⟨0,0,none⟩))) (fun _ h=>h.elim) ⟨?_,?_,fun _ _ _ _ _ h=>h,?_⟩ (by rw[E];exact hv)) ?_
 ·intro i z h;obtain⟨_,rfl⟩:=B i z h;exact⟨⟨rfl,hg⟩,ho⟩
 ·intro i z b h F;have:=(A b).1 ⟨i,z,h,F⟩;omega
 ·intro i j z H b h I _ _;rw[(B i z h).1,(B j H I).1]
 ·rintro e w' ⟨u,ρ',rfl,h⟩;have C:=h.slot;simp only[Slot.ok] at C;rw[zR.1 C];refine⟨rfl,h.os,h.tape,h.output,h.size,fun k K=>?_⟩;by_cases D:k=0
  ·subst D;have:=h.own G (.dp (dR v) go []) (by rw[cN];simp);rw[this.2,ho]
  ·exact h.frame k K (fun L=>D ((A k).1 L))
end Go.Sw
namespace Go.Sw
open Go Go.RowKit
mutual
theorem Di:∀s:Slot,s.map id=s
 | .v _ _ | .ref _ | .ptr _ _ | .fw _ _ _ _ | .el _ _ _ _ | .y9 _ _ _ _ _ | .nf _ _ _ _ | .sub _ _ _ | .YI _ _ | .top=>rfl
 | .j2 _ c=>by rw[Slot.map,Bm c]
 | .agg l | .WU l=>by rw[Slot.map,Bm l]
theorem Bm:∀l:List Slot,fM id l=l
 | []=>rfl
 |s::l=>by rw[fM,Di s,Bm l]
end
inductive Kp (g:List (Nat×Slot)):List Nat->List (Nat×Slot)->Prop
 |n:Kp g [] []
 |c {t:Nat} {s:Slot} {ts:List Nat} {g':List (Nat×Slot)}:lk g t=some s->Kp g ts g'->Kp g (t::ts) ((t,s)::g')
inductive Nd:List Nat->List (Nat×WA)->List (Nat×WA)->Prop
 |n {s:List Nat}:Nd s [] []
 |c {s:List Nat} {i:Nat} {en:WA} {r d:List (Nat×WA)}:iF i s=false->Nd (i::s) r d->Nd s ((i,en)::r) ((i,en)::d)
 |s {s:List Nat} {i:Nat} {en:WA} {r d:List (Nat×WA)}:iF i s=true->Nd s r d->Nd s ((i,en)::r) d
theorem Nd.spec{s:List Nat}{r d:List (Nat×WA)}(h:Nd s r d):∀i en,aX d i=some en->i∉s/\aX r i=some en:=by
 induction h with
 |n=>intro i en h;cases h
 | @c s j e r d u _ B=>
  intro i en h;have u:j∉s:=fun x=>by rw[jB.2 x] at u;cases u
  rw[cN] at h ⊢;split at h
  ·rename_i e;subst e;rw[XC rfl];exact⟨u,h⟩
  ·rename_i e;rw[WV e];obtain⟨z,A⟩:=B i en h;exact⟨fun x=>z (aj _ x),A⟩
 | @s s j e r d u _ B=>
  intro i en h;obtain⟨z,A⟩:=B i en h;refine⟨z,?_⟩;rw[cN,WV (fun e:j=i=>z (by rw[<-e];exact jB.1 u))];exact A
theorem Nd.mem{s:List Nat}{r d:List (Nat×WA)}(h:Nd s r d):∀i∈d.map (·.1),i∉s:=by
 induction h with
 |n=>intro i h;cases h
 | @c s j e r d z _ u=>
  intro i h;rcases q9.1 h with rfl | h
  ·exact fun x=>by rw[jB.2 x] at z;cases z
  ·exact fun x=>u i h (aj _ x)
 |s _ _ u=>exact u
theorem Nd.inj{s:List Nat}{r d:List (Nat×WA)}(h:Nd s r d):Sc id (d.map (·.1))=true:=by
 induction h with
 |n=>rfl
 | @c s j e r d C B u=>
  simp only[H9,Sc,u,Bool.and_true,o6];intro x A;have:=B.mem x A;cases hb:Nat.beq (id x) (id j) with
  |false=>rfl
  |true=>
   have z:x=j:=A1 hb;exact absurd (by rw[z];exact ao) this
 |s _ _ u=>exact u
theorem No{σ:AS}{ls:List Nat}:∀{d:List (Nat×WA)},(∀x∈d,aX σ.d x.1=some x.2)->G8 σ id ls d
 | [],_=> .nil
 | (i,B)::d,h=>by
  have u:=h _ ao;have k:=No (ls:=ls) (fun x A=>h x (aj _ A));have z:∀l:List Slot,X6 σ id ls l l:=by
   intro l
   induction l with
   |nil=>exact .nil
   |cons s l C=>exact .cons (.of_eq (Di s).symm) C
  cases B with
  |box T l E=>exact .box u (z l) k
  |arr T e xs=>exact .arr u k
  |mp e f m=>exact .mp u k
  |dp D x l=>exact .dp (by simpa using u) k
theorem Kp.sub{σ:AS}{ls ts:List Nat}{g':List (Nat×Slot)}(h:Kp σ.g ts g'):aw σ id ls g':=by
 induction h with
 |n=>exact .nil
 |c h _ u=>exact .cons h (.of_eq (Di _).symm) u
theorem Np{r:Nat->Nat}:∀{d:List (Nat×WA)},Sc id (d.map (·.1))=true->∀x∈d,aX d x.1=some x.2
 | [],_,x,h=>by cases h
 | (i,z)::d,u,x,h=>by
  simp only[H9,Sc,G7,o6] at u;rw[cN];rcases q9.1 h with rfl | h
  ·simp
  ·rw[WV,Np (r:=r) u.2 x h];intro e;have:=u.1 x.1 (dj.2 ⟨x,h,rfl⟩);simp[e] at this
section
variable {F:XO}{ops:Array Oper}{σ σ':AS}
theorem HY{ts dr:List Nat}{g':List (Nat×Slot)}{d':List (Nat×WA)}(hg:Kp σ.g ts g')(hd:Nd dr σ.d d'):Sub F σ ⟨g',d'⟩:=
 Sub.mk id hg.sub (No fun x h=>(hd.spec _ _ (Np (r:=id) hd.inj x h)).2) hd.inj
theorem J.kp(ts dr:List Nat){g':List (Nat×Slot)}{d':List (Nat×WA)}(hg:Kp σ.g ts g':=by repeat (first | exact .n | (apply Kp.c;exact rfl)))
  (hd:Nd dr σ.d d':=by repeat (first | exact .n | (apply Nd.c;exact rfl) | (apply Nd.s;exact rfl))):J F ops [] σ ⟨g',d'⟩:=J.fin (HY hg hd)
theorem aC(r:List (Nat×Nat))(hg:aw σ (rn r) (σ'.d.map (·.1)) σ'.g:=by repeat (first | exact .nil | refine .c rfl ?_ | refine .cons rfl (.S8 rfl rfl) ?_))
  (hd:G8 σ (rn r) (σ'.d.map (·.1)) σ'.d:=by repeat (first | exact .nil | refine .arr rfl ?_ | refine .mp rfl ?_ | refine .dp rfl ?_ | refine .box rfl (by repeat (first | exact .nil | refine .c rfl ?_ | refine .cons (.S8 rfl rfl) ?_)) ?_ | refine .aSk rfl (by repeat (first | exact .nil | refine .c rfl ?_ | refine .cons (.S8 rfl rfl) ?_)) ?_))
  (hi:Sc (rn r) (σ'.d.map (·.1))=true:=by rfl):Sub F σ σ':=Sub.mk (rn r) hg hd hi
end
end Go.Sw
namespace Go.Sw
open Go Go.RowKit
section
variable {F F':XO}{ops:Array Oper}{o:Oper}{os:List Oper}{σ σ' gh σ1:AS}{s s' s2:Slot}{new WJ:List (Nat×WA)}{Q:Exit->Act->World->Prop}{cs:List Code}{OK:List (Nat×WA)->Prop}{its:List ZO}{id:Nat}
theorem J.g{t j:Nat}{want x:Bool}(hb:x=want)(h:JO F o σ s new)(k:J F ops os (σ.put o.dst s new) σ')(g:o.guard= .some (j,want):=by rfl)(ht:(ops[j]?).bind (·.dst)= .some t:=by rfl)(hx:lk σ.g t= .some (.v Wr.bool x):=by rfl)(hf:σ.free new=true:=by rfl)(hd:gQ o.dst F.N=true:=by rfl):J F ops (o::os) σ σ':=J.cons (.met t g ht hx hb) h hf hd k
theorem XZ.k(h:JO F o σ s new)(k:XZ F ops OK os ⟨iR o.dst s σ.g,new++σ.d⟩ its σ')(g:o.guard= .none:=by rfl)(hd:gQ o.dst F.N=true:=by rfl):XZ F ops OK (o::os) σ (⟨s,new,new,Ld σ.g o,[]⟩::its) σ':= .cons (.none g) h hd k
theorem XZ.g{t j:Nat}{want x:Bool}(hb:x=want)(h:JO F o σ s new)(k:XZ F ops OK os ⟨iR o.dst s σ.g,new++σ.d⟩ its σ')(g:o.guard= .some (j,want):=by rfl)(ht:(ops[j]?).bind (·.dst)= .some t:=by rfl)(hx:lk σ.g t= .some (.v Wr.bool x):=by rfl)(hd:gQ o.dst F.N=true:=by rfl):XZ F ops OK (o::os) σ (⟨s,new,new,Ld σ.g o,[]⟩::its) σ':= .cons (.met t g ht hx hb) h hd k
theorem XZ.w{t j:Nat}{want x:Bool}(hb:x= !want)(k:XZ F ops OK os ⟨iR o.dst .top σ.g,σ.d⟩ its σ')(g:o.guard= .some (j,want):=by rfl)(ht:(ops[j]?).bind (·.dst)= .some t:=by rfl)(hx:lk σ.g t= .some (.v Wr.bool x):=by rfl)(hd:gQ o.dst F.N=true:=by rfl):XZ F ops OK (o::os) σ (⟨.top,[],[],Ld σ.g o,[]⟩::its) σ':= .left (.J3 t g ht hx hb) hd k
def Ua(ops:Array Oper):List Nat:=ops.toList.foldl (fun h o=>h++[(Mq o).foldl (fun m j=>m ||| 1 <<< j ||| h.getD j 0) 0]) []
theorem UN(n:Nat)(hm:F.P.follows .mixedOrders=true)(hp:XZ F ops OK (ops.toList.take n) σ its σ1)(ht:J F ops (ops.toList.drop n) σ1 σ')(hOK:∀L,OK (Cc (fun i=>(its.getD i ⟨.top,[],[],[],[]⟩).nw) (fun i=>(its.getD i ⟨.top,[],[],[],[]⟩).dl) σ.d n L))(k:W F cs σ' Q)
  (hn:Nat.ble n ops.size=true:=by rfl) (V1:Df ops=true:=by decide+kernel) (yz:Yk ops (Ua ops)=true:=by decide+kernel) (bn:Hs ops n (Ua ops)=true:=by decide+kernel) (zk:HH its (Ua ops)=true:=by kernel_rfl) (oy:HI σ its (Ua ops)=true:=by kernel_rfl):
  W F (.region id ops true::cs) σ Q:=OY OK n (Ua ops) hm hp ht hn V1 yz bn zk oy hOK k
theorem eF(n:Nat)(hm:F.P.follows .mixedOrders=true)(hp:XZ F ops (fun _=>True) (ops.toList.take n) σ its σ1)(ht:J F ops (ops.toList.drop n) σ1 σ')(k:W F cs σ' Q)
  (hn:Nat.ble n ops.size=true:=by rfl) (V1:Df ops=true:=by decide+kernel) (yz:Yk ops (Ua ops)=true:=by decide+kernel) (bn:Hs ops n (Ua ops)=true:=by decide+kernel) (zk:HH its (Ua ops)=true:=by kernel_rfl) (oy:HI σ its (Ua ops)=true:=by kernel_rfl):
  W F (.region id ops true::cs) σ Q:=OY _ n (Ua ops) hm hp ht hn V1 yz bn zk oy (fun _=>trivial) k
theorem eN{d:Option Tmp}{ty:TypeId}{p:String}{af:Array Edge}{gd:Option (Nat×Bool)}{f:FuncId}{xs:List Operand}{ts:Array TypeId}{ss:List Slot}{res:Slot}{YM WJ:(Nat->Nat)->List (Nat×WA)}{D:List (Nat×WA)}{K:List Nat}(H:List Nat)(r:Nat->Nat)(hr:∀i j,r i=r j->i=j)
  (hc:∀A,VZ F.P f ss (YM A) res (WJ A)) (YE:∀args w,(callFunc f args).run F.P w= .ok (.enter f args) w) (E7:∀A,ZM σ r A (WJ A) D K) (ha:B5 σ r xs ss:=by repeat (first | exact .nil | refine .cons (.dir rfl) ?_))
  (B9:∀A,B2 σ r A (YM A):=by intro _;repeat (first | exact .nil | refine .box rfl ?_ | refine .arr rfl ?_ | refine .mp rfl ?_ | refine .dp rfl ?_))
  (hH:∀A,(YM A).map (fun x=>r x.1)=H:=by intro _;rfl) (YN:Bf σ.g (iY σ.d H) H K D=true:=by rfl) (P4:Pn σ H D=true:=by rfl) (YX:∀A,lB res (WJ A)=true:=by intro _;rfl) (jk:K.all (fun k=>iF k H)=true:=by rfl) (j8:gQ d F.N=true:=by rfl):
  JM F ⟨d,.call ⟨.value (.func f),xs.toArray,ts⟩,ty,p,af,gd⟩ σ ⟨iR d (res.map r) σ.g,D++iY σ.d H⟩:=sW r hr hc YE ha B9 E7 hH YN P4 YX jk j8
theorem UO{ops:List Oper}{y:Code}(h:J F ops.toArray ops σ σ')(k:W F (y::cs) σ' Q):W F (.seq (.region id ops.toArray false) y::cs) σ Q:=aG (eU h k)
theorem aU{c:Tmp}{x y:Code}{b:Bool}{α:Type}{p q z:α}(h:(bif b then p else q)=z)(hb:lk σ.g c=some (.v Wr.bool b))(ht:b=true->p=z->W F (x::cs) σ Q)(hf:b=false->q=z->W F (y::cs) σ Q):W F (.cond (.tmp c) x y::cs) σ Q:=
 Ge hb (fun e=>ht e (by subst e;exact h)) fun e=>hf e (by subst e;exact h)
theorem cd{b:Bool}{α:Type}{p q z:α}{P:Prop}(h:(bif b then p else q)=z)(ht:b=true->p=z->P)(hf:b=false->q=z->P):P:=by
 cases b
 ·exact hf rfl h
 ·exact ht rfl h
section
variable {fn:Func}{res:Slot}{t t' t2:Nat}
theorem kS(g':List (Nat×Slot))(ex:List (Nat×WA))(hs:Sub F' σ ⟨g',ex++WJ⟩)(k:XQ F' ⟨g',ex++WJ⟩ (zX F fn res WJ) .ret):XQ F' σ (zX F fn res WJ) .ret:=cA hs k
theorem eY(hF:X4 F F')(B7:fn.results= #[.tmp t])(hs:Sub F' σ ⟨[(t,res)],WJ⟩)(hn:C3 WJ WJ:=by repeat (first | exact .nil | refine .cons rfl ?_)):XQ F' σ (zX F fn res WJ) .ret:=cA hs (fA hF B7 (.tmp (by simp[lk])) hn)
theorem HZ(hF:X4 F F')(B7:fn.results= #[.tmp t,.tmp t'])(hs:Sub F' σ ⟨[(t,s),(t',s')],WJ⟩)(hn:C3 WJ WJ:=by repeat (first | exact .nil | refine .cons rfl ?_))(h:Nat.beq t t'=false:=by rfl):XQ F' σ (zX F fn (.WU [s,s']) WJ) .ret:=
 cA hs (eA hF B7 (.tmp (by simp[lk])) (.tmp (by simp only[lk,h,aC3,pF,XX])) hn)
theorem Nq(hF:X4 F F')(B7:fn.results= #[.tmp t,.tmp t',.tmp t2])(hs:Sub F' σ ⟨[(t,s),(t',s'),(t2,s2)],WJ⟩)(hn:C3 WJ WJ:=by repeat (first | exact .nil | refine .cons rfl ?_))(h:Nat.beq t t'=false:=by rfl)(h2:Nat.beq t t2=false:=by rfl)(h3:Nat.beq t' t2=false:=by rfl):XQ F' σ (zX F fn (.WU [s,s',s2]) WJ) .ret:=
 cA hs (zY hF B7 (.tmp (by simp[lk])) (.tmp (by simp only[lk,h,aC3,pF,XX])) (.tmp (by simp only[lk,h2,h3,aC3,pF,XX])) hn)
end
end
section
variable {F F':XO}{σ:AS}{s s' s2 res:Slot}{new:List (Nat×WA)}{fn:Func}{t t' t2:Nat}
theorem wC(hF:X4 F F')(hR:∀k,¬F.R k)(B7:fn.results= #[.tmp t])(hs:Sub F' σ ⟨[(t,res)],new⟩)(hn:C3 new new:=by repeat (first | exact .nil | refine .cons rfl ?_))(YX:lB res new=true:=by rfl):
  XQ F' σ (Pm F fn res new) .ret:=cA hs (aY hF hR B7 (.tmp (by simp[lk])) hn YX)
theorem wT(hF:X4 F F')(hR:∀k,¬F.R k)(B7:fn.results= #[.tmp t,.tmp t'])(hs:Sub F' σ ⟨[(t,s),(t',s')],new⟩)(hn:C3 new new:=by repeat (first | exact .nil | refine .cons rfl ?_))(YX:lB (.WU [s,s']) new=true:=by rfl)(h:Nat.beq t t'=false:=by rfl):
  XQ F' σ (Pm F fn (.WU [s,s']) new) .ret:=cA hs (bS hF hR B7 (.tmp (by simp[lk])) (.tmp (by simp only[lk,h,aC3,pF,XX])) hn YX)
end
theorem sO{α:Type}{e:Wr α}{x:α}:N5 [.v e x] e x:=N5.one e x
end Go.Sw
namespace Go.Sw
open Go Go.RowKit
def tl{α:Type}:List (Nat×α)->Nat->Option α
 | [],_=>none
 | (i,s)::r,t=>bif Nat.beq i t then some s else tl r t
inductive Tb {α:Type} (p:Nat->α->Prop):List (Nat×α)->Prop
 |n:Tb p []
 |c {i:Nat} {x:α} {l:List (Nat×α)}:p i x->Tb p l->Tb p ((i,x)::l)
theorem Tb.at{α:Type}{p:Nat->α->Prop}{l:List (Nat×α)}(h:Tb p l){i:Nat}{x:α}(hl:tl l i=some x):p i x:=by
 induction h with
 |n=>cases hl
 | @c j y l u _ z=>
  simp only[tl] at hl;cases hb:Nat.beq j i with
  |true=>rw[hb] at hl;cases hl;rw[<-A1 hb];exact u
  |false=>rw[hb] at hl;exact z hl
class fT (P:Program) where
 ag:List (Nat×Bool)
 hg:Tb (fun T v=>∀w,(isAgg T).run P w= .ok v w) ag
 sz:List (Nat×Nat)
 hs:Tb (fun T v=>∀w,(sizeOf T).run P w= .ok v w) sz
 un:List (Nat×TypeDesc)
 hu:Tb (fun T v=>∀w,(underlying T).run P w= .ok v w) un
 et:TypeId
section
variable {F:XO}{ops:Array Oper}{os:List Oper}{σ σ' σ1:AS}{s s0:Slot}{d:Option Tmp}{x y z c:Operand}{ty:TypeId}{p:String}{af:Array Edge}{gd:Option (Nat×Bool)}{pb:Option Nat}
def JA(F:XO)(ops:Array Oper)(n:Nat)(os:List Oper)(σ σ':AS)(Q:Prop):Prop:=Q->J F ops os σ σ'
theorem JA.z0{Q:Prop}(h:Q->J F ops os σ σ'):JA F ops 0 os σ σ' Q:=h
def J1(F:XO)(ops:Array Oper)(o:Oper)(σ σ1:AS):Prop:=∀{os:List Oper} {σ':AS},J F ops os σ1 σ'->J F ops (o::os) σ σ'
theorem JA.s1{Q:Prop}{n:Nat}{o:Oper}(h:J1 F ops o σ σ1)(k:JA F ops n os σ1 σ' Q):JA F ops (n+1) (o::os) σ σ' Q:=fun q=>h (k q)
theorem J1.o{o:Oper}{new:List (Nat×WA)}(h:JO F o σ s new)(g:GK ops σ.g o true)(hf:σ.free new=true)(hd:gQ o.dst F.N=true):J1 F ops o σ (σ.put o.dst s new):=fun k=>J.cons g h hf hd k
theorem J1.w{o:Oper}(g:GK ops σ.g o false)(hd:gQ o.dst F.N=true):J1 F ops o σ (σ.put o.dst .top []):=fun k=>J.left g hd k
theorem UP{o:Oper}(h:JM F o σ σ1)(g:GK ops σ.g o true):J1 F ops o σ σ1:=fun k=>AI g h k
theorem SH{g:List (Nat×Slot)}{o:Oper}{j:Nat}{want:Bool}{t:Tmp}{x:Bool}(h:o.guard= .some (j,want))(ht:(ops[j]?).bind (·.dst)= .some t)(hx:lk g t= .some (.v Wr.bool x))(hb:x=want):GK ops g o true:= .met t h ht hx hb
theorem SI{g:List (Nat×Slot)}{o:Oper}{j:Nat}{want:Bool}{t:Tmp}{x:Bool}(h:o.guard= .some (j,want))(ht:(ops[j]?).bind (·.dst)= .some t)(hx:lk g t= .some (.v Wr.bool x))(hb:x= !want):GK ops g o false:= .J3 t h ht hx hb
section
variable {id:Nat}{cs:List Code}{Q:Exit->Act->World->Prop}
def JW(F:XO)(ops:Array Oper)(os:List Oper)(cs:List Code)(σ:AS)(Q:Exit->Act->World->Prop):Prop:=∃σ',J F ops os σ σ'/\W F cs σ' Q
theorem eR{ops:List Oper}(h:JW F ops.toArray ops cs σ Q):W F (.region id ops.toArray false::cs) σ Q:=by
 obtain⟨_,h,k⟩:=h;exact eU h k
theorem JW.k{o:Oper}{new:List (Nat×WA)}(h:JO F o σ s new)(k:JW F ops os cs (σ.put o.dst s new) Q)(g:o.guard= .none:=by rfl)(hf:σ.free new=true:=by rfl)(hd:gQ o.dst F.N=true:=by rfl):JW F ops (o::os) cs σ Q:=by
 obtain⟨σ',u,k⟩:=k;exact⟨σ',J.k h u g hf hd,k⟩
theorem JW.t{o:Oper}(h:JM F o σ σ1)(k:JW F ops os cs σ1 Q)(g:o.guard= .none:=by rfl):JW F ops (o::os) cs σ Q:=by
 obtain⟨σ',u,k⟩:=k;exact⟨σ',J.t h u g,k⟩
theorem JW.sub(h:Sub F σ σ')(k:JW F ops os cs σ' Q):JW F ops os cs σ Q:=by
 obtain⟨_,u,k⟩:=k;exact⟨_,J.sub h u,k⟩
end
section
theorem oL[tb:fT F.P]{T U:TypeId}{l:List Slot}{i off:Nat}(hx:dF σ.g x=some (.ptr i off))(he:aX σ.d i=some (.box T l pb))(ho:nM l off=some s)(ha:tl tb.ag U=some s.ag)(hs:tl tb.sz U=some s.sz):JO F ⟨d,.load U x,ty,p,af,gd⟩ σ s []:=aJ hx he ho (tb.hg.at ha) (tb.hs.at hs)
theorem oF[tb:fT F.P]{U:TypeId}{fs:Array Field}{n i off m:Nat}{fl:Field}(hx:dF σ.g x=some (.ptr i off))(hu:tl tb.un U=some (.struct fs))(hf:fs[n]? =some fl)(hm:tl tb.sz fl.type=some m)(ZI:Nat.beq m 0=false):JO F ⟨d,.fieldAddr U x n,ty,p,af,gd⟩ σ (.ptr i (off+fl.offset)) []:=aB _ hx (tb.hu.at hu) hf (tb.hs.at hm) ZI (aC3 _)
theorem oE[tb:fT F.P]{α:Type}{e:Wr α}{xs:List α}{U E:TypeId}(hx:dF σ.g x=some (.v (Wr.sl e) xs))(hu:tl tb.un U=some (.slice E)):JO F ⟨d,.call ⟨.builtin .len,#[x],#[U]⟩,ty,p,af,gd⟩ σ (.v (Wr.int .i64) xs.length) []:=tL hx (tb.hu.at hu)
theorem VK[tb:fT F.P]{α:Type}{e:Wr α}{xs:List α}{T U E:TypeId}{i:Nat}(hx:dF σ.g x=some (.ref i))(he:aX σ.d i=some (.arr T e xs))(hu:tl tb.un U=some (.slice E)):JO F ⟨d,.call ⟨.builtin .len,#[x],#[U]⟩,ty,p,af,gd⟩ σ (.v (Wr.int .i64) xs.length) []:=Sa hx he (tb.hu.at hu)
theorem oP[tb:fT F.P]{α:Type}{e:Wr α}{v:α}{U:TypeId}(hx:dF σ.g x=some (.YI e v))(ha:tl tb.ag U=some e.agg)(hs:tl tb.sz U=some e.n):JO F ⟨d,.load U x,ty,p,af,gd⟩ σ (.v e v) []:=cG hx (tb.hg.at ha) (tb.hs.at hs)
theorem oI[tb:fT F.P]{α:Type}{e:Wr α}{xs:List α}{v:α}{U E:TypeId}{k:IntKind}{n:Int}(hx:dF σ.g x=some (.v (Wr.sl e) xs))(hy:dF σ.g y=some (.v (Wr.int k) n))(hz:Sw.idx xs n=some v)(hu:tl tb.un U=some (.slice E))(hm:tl tb.sz E=some e.n):JO F ⟨d,.indexAddr U x y,ty,p,af,gd⟩ σ (.YI e v) []:=pK hz hx hy (tb.hu.at hu) (tb.hs.at hm)
theorem oN[tb:fT F.P]{T U U':TypeId}{o:Option Int}{ms:Array (String×TypeId)}(hx:dF σ.g x=some (.v (Wr.err T) o))(hu:tl tb.un U=some (.interface ms)):JO F ⟨d,.binOp .neq U x (.const .nilIface) U',ty,p,af,gd⟩ σ (.v Wr.bool o.isSome) []:=Uo (tb.hu.at hu) hx
theorem oK[tb:fT F.P]{T:TypeId}{n:Int}(hx:dF σ.g x=some (.v (Wr.int .i64) n))(hu:tl tb.un T=some (.int .i64)):JO F ⟨d,.makeInterface T x,ty,p,af,gd⟩ σ (.v (Wr.err T) (some n)) []:=GN (tb.hu.at hu) hx
theorem oZ[tb:fT F.P]:JO F ⟨d,.assign (.const .nilIface),ty,p,af,gd⟩ σ (.v (Wr.err tb.et) none) []:=zI _
theorem oV[tb:fT F.P]{A B:TypeId}{da:TypeDesc}{k k':IntKind}{n:Int}(hx:dF σ.g x=some (.v (Wr.int k) n))(ha:tl tb.un A=some da)(hb:tl tb.un B=some (.int k')):JO F ⟨d,.convert A B x,ty,p,af,gd⟩ σ (.v (Wr.int k') (k'.wrap n)) []:=AL (tb.hu.at ha) (tb.hu.at hb) hx
theorem oS[tb:fT F.P]{T U n:TypeId}{l:List Slot}{i off:Nat}(hx:dF σ.g x=some (.ptr i off))(he:aX σ.d i=some (.box T l pb))(ho:nM l off=some s0)(hy:dF σ.g y=some s)(hp:s.plain=true)(hn:tl tb.sz U=some n)(r8:Nat.beq s.sz n=true)(K5:Nat.beq s0.sz n=true):
  JM F ⟨none,.store U x y,ty,p,af,gd⟩ σ ⟨σ.g,(i,.box T (nX l off s) pb)::σ.d⟩:=Up hx he ho hy hp r8 K5 (tb.hs.at hn)
theorem oW[tb:fT F.P]{T U n:TypeId}{l l':List Slot}{i:Nat}(hx:dF σ.g x=some (.ptr i 0))(he:aX σ.d i=some (.box T l pb))(hy:dF σ.g y=some (.agg l'))(hn:tl tb.sz U=some n)(hl:(l.map Slot.sz).sum=n)(W9:(l'.map Slot.sz).sum=n)(hnt:l'.all Slot.plain=true):
  JM F ⟨none,.store U x y,ty,p,af,gd⟩ σ ⟨σ.g,(i,.box T l' pb)::σ.d⟩:=Kj hx he hl hy W9 hnt (tb.hs.at hn)
theorem oT{b:Bool}(hc:dF σ.g c=some (.v Wr.bool b))(hb:b=true)(hx:dF σ.g x=some s):JO F ⟨d,.pick c x y,ty,p,af,gd⟩ σ s []:=Hm hb hc hx
theorem oU{b:Bool}(hc:dF σ.g c=some (.v Wr.bool b))(hb:b=false)(hx:dF σ.g y=some s):JO F ⟨d,.pick c x y,ty,p,af,gd⟩ σ s []:=xS hb hc hx
theorem jo{o:Oper}{new:List (Nat×WA)}(k:JO F o σ s new:=by first
 | ((with_reducible apply aD);exact rfl)
 | ((with_reducible apply bQ);exact rfl)
 | ((with_reducible apply oF);exact rfl;exact rfl;exact rfl;exact rfl;exact rfl)
 | ((with_reducible apply oL);exact rfl;exact rfl;exact rfl;exact rfl;exact rfl)
 | ((with_reducible apply nF);exact rfl;exact rfl;exact rfl)
 | ((with_reducible apply aK);exact rfl)
 | ((with_reducible apply bW);exact rfl;exact rfl)
 | ((with_reducible apply cY);exact rfl;exact rfl;exact rfl)
 | ((with_reducible apply oE);exact rfl;exact rfl)
 | ((with_reducible apply oI);exact rfl;exact rfl;assumption;exact rfl;exact rfl)
 | ((with_reducible apply oP);exact rfl;exact rfl;exact rfl)
 | ((with_reducible apply oN);exact rfl;exact rfl)
 | ((with_reducible apply oT);exact rfl;(first | assumption | exact rfl);exact rfl)
 | ((with_reducible apply oU);exact rfl;(first | assumption | exact rfl);exact rfl)
 | ((with_reducible apply oZ))
 | ((with_reducible apply oK);exact rfl;exact rfl)
 | ((with_reducible apply oV);exact rfl;exact rfl;exact rfl)
 | ((with_reducible apply Jd);exact rfl)
 | ((with_reducible apply VK);exact rfl;exact rfl;exact rfl)):JO F o σ s new:=k
theorem gk{g:List (Nat×Slot)}{o:Oper}(k:GK ops g o true:=by first
 |exact GK.none rfl
 |exact SH rfl rfl rfl (by first | assumption | exact rfl)):GK ops g o true:=k
theorem gu{g:List (Nat×Slot)}{o:Oper}(k:GK ops g o false:=by exact SI rfl rfl rfl (by first | assumption | exact rfl)):GK ops g o false:=k
theorem jm{o:Oper}(k:JM F o σ σ1:=by first
 | ((with_reducible apply oS);exact rfl;exact rfl;exact rfl;exact rfl;exact rfl;exact rfl;exact rfl;exact rfl)
 | ((with_reducible apply oW);exact rfl;exact rfl;exact rfl;exact rfl;exact rfl;exact rfl;exact rfl)):JM F o σ σ1:=k
theorem js{o:Oper}(k:J1 F ops o σ σ1:=by first
 | (apply J1.o;exact jo;exact gk;exact rfl;exact rfl)
 | (apply J1.w;exact gu;exact rfl)
 | (apply UP;exact jm;exact gk)):J1 F ops o σ σ1:=k
theorem ja(n:Nat){Q:Prop}(k:Q)(h:JA F ops n os σ σ' Q:=by
 repeat ((with_reducible apply JA.s1);exact js)
 exact JA.z0 fun q=>q):J F ops os σ σ':=h k
def JZ(F:XO)(ops:Array Oper)(ts:List Nat)(os:List Oper)(σ σ':AS):Prop:=J F ops os σ σ'
theorem JZ.s1{ts:List Nat}{o:Oper}(h:J1 F ops o σ σ1)(k:JZ F ops ts os σ1 σ'):JZ F ops ts (o::os) σ σ':=h k
theorem JZ.z0{ts:List Nat}{g':List (Nat×Slot)}{d':List (Nat×WA)}(hg:Kp σ.g ts g')(hd:Nd [] σ.d d'):JZ F ops ts [] σ ⟨g',d'⟩:=J.fin (HY hg hd)
theorem jz(ts:List Nat)(h:JZ F ops ts os σ σ':=by
 repeat (apply JZ.s1;exact js)
 apply JZ.z0
 ·repeat (first | exact .n | (apply Kp.c;exact rfl))
 ·repeat (first | exact .n | (apply Nd.c;exact rfl) | (apply Nd.s;exact rfl))):J F ops os σ σ':=h
theorem jy(h:JZ F ops [] os σ σ':=by
 repeat (apply JZ.s1;exact js)
 exact J.fin (aC [])):J F ops os σ σ':=h
variable {OK:List (Nat×WA)->Prop}{it:ZO}{its:List ZO}{id:Nat}{cs:List Code}{Q:Exit->Act->World->Prop}
def P1(F:XO)(ops:Array Oper)(OK:List (Nat×WA)->Prop)(o:Oper)(σ σ1:AS)(it:ZO):Prop:=∀{os:List Oper} {σ':AS} {its:List ZO},XZ F ops OK os σ1 its σ'->XZ F ops OK (o::os) σ (it::its) σ'
theorem P1.o{o:Oper}{new:List (Nat×WA)}(h:JO F o σ s new)(g:GK ops σ.g o true)(hd:gQ o.dst F.N=true):P1 F ops OK o σ ⟨iR o.dst s σ.g,new++σ.d⟩ ⟨s,new,new,Ld σ.g o,[]⟩:=fun k=> .cons g h hd k
theorem P1.w{o:Oper}(g:GK ops σ.g o false)(hd:gQ o.dst F.N=true):P1 F ops OK o σ ⟨iR o.dst .top σ.g,σ.d⟩ ⟨.top,[],[],Ld σ.g o,[]⟩:=fun k=> .left g hd k
theorem SJ[tb:fT F.P]{T U n:TypeId}{l:List Slot}{i off:Nat}(g:GK ops σ.g ⟨none,.store U x y,ty,p,af,gd⟩ true)(hx:dF σ.g x=some (.ptr i off))(he:aX σ.d i=some (.box T l pb))(ho:nM l off=some s0)(hy:dF σ.g y=some s)(hp:s.plain=true)(hn:tl tb.sz U=some n)(r8:Nat.beq s.sz n=true)(K5:Nat.beq s0.sz n=true):
  P1 F ops OK ⟨none,.store U x y,ty,p,af,gd⟩ σ ⟨σ.g,(i,.box T (nX l off s) pb)::σ.d⟩ ⟨.top,[(i,.box T (nX l off s) pb)],[],Ld σ.g ⟨none,.store U x y,ty,p,af,gd⟩,[]⟩:=fun k=>XZ.store g hx he ho hy hp r8 K5 (tb.hs.at hn) k
theorem p1{o:Oper}(k:P1 F ops OK o σ σ1 it:=by first
 | (apply P1.o;exact jo;exact gk;exact rfl)
 | (apply P1.w;exact gu;exact rfl)
 | ((with_reducible apply SJ);exact gk;exact rfl;exact rfl;exact rfl;exact rfl;exact rfl;exact rfl;exact rfl;exact rfl)):P1 F ops OK o σ σ1 it:=k
theorem XZ.s1{o:Oper}(h:P1 F ops OK o σ σ1 it)(k:XZ F ops OK os σ1 its σ'):XZ F ops OK (o::os) σ (it::its) σ':=h k
theorem MU(n:Nat)(ts:List Nat)(hm:F.P.follows .mixedOrders=true)(k:W F cs σ' Q)(hp:XZ F ops (fun _=>True) (ops.toList.take n) σ its σ1:=by
  repeat (apply XZ.s1;exact p1)
  exact .nil) (ht:JZ F ops ts (ops.toList.drop n) σ1 σ':=by
  repeat (apply JZ.s1;exact js)
  apply JZ.z0
  ·repeat (first | exact .n | (apply Kp.c;exact rfl))
  ·repeat (first | exact .n | (apply Nd.c;exact rfl) | (apply Nd.s;exact rfl)))
  (hn:Nat.ble n ops.size=true:=by rfl) (V1:Df ops=true:=by decide+kernel) (yz:Yk ops (Ua ops)=true:=by decide+kernel) (bn:Hs ops n (Ua ops)=true:=by decide+kernel) (zk:HH its (Ua ops)=true:=by kernel_rfl) (oy:HI σ its (Ua ops)=true:=by kernel_rfl):
  W F (.region id ops true::cs) σ Q:=eF n hm hp ht k hn V1 yz bn zk oy
theorem rB(n:Nat)(hm:F.P.follows .mixedOrders=true)(k:W F cs σ' Q)(hp:XZ F ops (fun _=>True) (ops.toList.take n) σ its σ1:=by
  repeat (apply XZ.s1;exact p1)
  exact .nil) (ht:JZ F ops [] (ops.toList.drop n) σ1 σ':=by
  repeat (apply JZ.s1;exact js)
  exact J.fin (aC []))
  (hn:Nat.ble n ops.size=true:=by rfl) (V1:Df ops=true:=by decide+kernel) (yz:Yk ops (Ua ops)=true:=by decide+kernel) (bn:Hs ops n (Ua ops)=true:=by decide+kernel) (zk:HH its (Ua ops)=true:=by kernel_rfl) (oy:HI σ its (Ua ops)=true:=by kernel_rfl):
  W F (.region id ops true::cs) σ Q:=eF n hm hp ht k hn V1 yz bn zk oy
theorem JW.f(ts:List Nat)(k:W F cs σ' Q)(h:JZ F ops ts os σ σ':=by
 repeat (apply JZ.s1;exact js)
 apply JZ.z0
 ·repeat (first | exact .n | (apply Kp.c;exact rfl))
 ·repeat (first | exact .n | (apply Nd.c;exact rfl) | (apply Nd.s;exact rfl))):JW F ops os cs σ Q:=⟨_,h,k⟩
def JWA(F:XO)(ops:Array Oper)(n:Nat)(os:List Oper)(cs:List Code)(σ:AS)(Q:Exit->Act->World->Prop)(R:Prop):Prop:=R->JW F ops os cs σ Q
theorem JWA.s1{R:Prop}{n:Nat}{o:Oper}(h:J1 F ops o σ σ1)(k:JWA F ops n os cs σ1 Q R):JWA F ops (n+1) (o::os) cs σ Q R:=fun r=>by
 obtain⟨σ',u,k⟩:=k r;exact⟨σ',h u,k⟩
theorem JWA.z0:JWA F ops 0 os cs σ Q (JW F ops os cs σ Q):=fun r=>r
theorem JW.a(n:Nat){R:Prop}(k:R)(h:JWA F ops n os cs σ Q R:=by
 repeat ((with_reducible apply JWA.s1);exact js)
 exact JWA.z0):JW F ops os cs σ Q:=h k
theorem dS{ops:List Oper}(ts:List Nat)(k:W F cs σ' Q)(h:JZ F ops.toArray ts ops σ σ':=by
 repeat (apply JZ.s1;exact js)
 apply JZ.z0
 ·repeat (first | exact .n | (apply Kp.c;exact rfl))
 ·repeat (first | exact .n | (apply Nd.c;exact rfl) | (apply Nd.s;exact rfl))):W F (.region id ops.toArray false::cs) σ Q:=eU h k
theorem aL{ops:List Oper}{y:Code}(ts:List Nat)(k:W F (y::cs) σ' Q)(h:JZ F ops.toArray ts ops σ σ':=by
 repeat (apply JZ.s1;exact js)
 apply JZ.z0
 ·repeat (first | exact .n | (apply Kp.c;exact rfl))
 ·repeat (first | exact .n | (apply Nd.c;exact rfl) | (apply Nd.s;exact rfl))):W F (.seq (.region id ops.toArray false) y::cs) σ Q:=aG (eU h k)
theorem cU{ops:List Oper}{y z:Code}(ts:List Nat)(k:W F (y::z::cs) σ' Q)(h:JZ F ops.toArray ts ops σ σ':=by
 repeat (apply JZ.s1;exact js)
 apply JZ.z0
 ·repeat (first | exact .n | (apply Kp.c;exact rfl))
 ·repeat (first | exact .n | (apply Nd.c;exact rfl) | (apply Nd.s;exact rfl))):W F (.seq (.seq (.region id ops.toArray false) y) z::cs) σ Q:=aG (aG (eU h k))
theorem aI{ops:List Oper}{y:Code}(h:JW F ops.toArray ops (y::cs) σ Q):W F (.seq (.region id ops.toArray false) y::cs) σ Q:=aG (eR h)
theorem jO{ops:List Oper}{y z:Code}(h:JW F ops.toArray ops (y::z::cs) σ Q):W F (.seq (.seq (.region id ops.toArray false) y) z::cs) σ Q:=aG (aG (eR h))
end
end
end Go.Sw
namespace Go.Mo
open Go Go.Sw
abbrev aQ:=List Int
abbrev aM:Wr aQ:=Wr.arr 8 (Wr.int .u8)
def aR:aQ:=List.replicate 8 0
abbrev dI:=((Unit×Unit) ⊕ ((Unit×Unit) ⊕ (Unit×Unit)))
abbrev gG(a p:Nat):Wr dI:=(qJ (Wr.N0 130 (Wr.q8 a) kJ) (qJ (Wr.N0 131 (Wr.q8 a) kJ) (Wr.N0 132 kJ (Wr.q8 p)) rfl rfl rfl rfl) rfl rfl rfl rfl)
abbrev dL:=((Unit×(Unit×Int)) ⊕ (Unit×Unit))
abbrev iD(a p:Nat):Wr dL:=(qJ (Wr.N0 156 kJ (Wr.pr (Wr.q8 p) (Wr.pt (Wr.int .u8)))) (Wr.N0 131 (Wr.q8 a) kJ) rfl rfl rfl rfl)
abbrev aF:=((Unit×(Unit×(List (Int×aQ)))) ⊕ ((Unit×(Unit×(Int×(Int×aQ)))) ⊕ ((Unit×(Unit×(Int×(Int×aQ)))) ⊕ ((Unit×Unit) ⊕ ((Unit×Unit) ⊕ ((Unit×Unit) ⊕ ((Unit×Unit) ⊕ (Unit×Unit))))))))
abbrev bO(a p:Nat):Wr aF:=(qJ (Wr.N0 138 kJ (Wr.pr (Wr.q8 p) (Wr.pt (Wr.sl (Wr.pr (Wr.int .i64) aM))))) (qJ (Wr.N0 140 kJ (Wr.pr (Wr.q8 p) (Wr.pr (Wr.pt (Wr.int .i64)) (Wr.pt (Wr.pr (Wr.int .i64) aM))))) (qJ (Wr.N0 141 kJ (Wr.pr (Wr.q8 p) (Wr.pr (Wr.pt (Wr.int .i64)) (Wr.pt (Wr.pr (Wr.int .i64) aM))))) (qJ (Wr.N0 131 (Wr.q8 a) kJ) (qJ (Wr.N0 142 kJ (Wr.q8 p)) (qJ (Wr.N0 130 (Wr.q8 a) kJ) (qJ (Wr.N0 131 (Wr.q8 a) kJ) (Wr.N0 143 kJ (Wr.q8 p)) rfl rfl rfl rfl) rfl rfl rfl rfl) rfl rfl rfl rfl) rfl rfl rfl rfl) rfl rfl rfl rfl) rfl rfl rfl rfl) rfl rfl rfl rfl)
abbrev lQ:=(Unit ⊕ (((Option ((List aQ)×(List (aQ×(List Int)))))) ⊕ (((List aQ)) ⊕ (Unit ⊕ Unit))))
abbrev BK:Wr lQ:=(vU 264 kJ (vU 266 (Wr.K3 (Wr.C8 (Wr.pr (Wr.sl aM) (Wr.Y3 aM (Wr.sl (Wr.int .i64)))))) (vU 268 (Wr.K3 (Wr.sl aM)) (vU 269 kJ MO rfl rfl) rfl rfl) rfl rfl) rfl rfl)
abbrev dZ:=((List aQ)×(List (Int×aQ))×Int)
abbrev pC:=(Int×(List (Int×aQ))×(List (Int×(List (Int×aQ))))×Bool)
abbrev pL:=(Int×Int×(List (Int×(List Int)×(List aQ))))
abbrev mJ:=(List (Bool×Bool×(List Int)))
abbrev eE:=(List aQ)
abbrev mP:=(List (Int×aQ))
abbrev cW:=(List Int)
abbrev uY:=(Int×Int×Int×aQ)
abbrev sI:=(List (Int×eE))
abbrev qS:=(Int×Int)
abbrev wY:=(List (Int×cW×eE))
abbrev Le:=(List (Int×aQ×Int×Int×Int×eE))
abbrev sL:=(List (Int×mP))
abbrev Bn:=((Option Int)×Int×dZ)
abbrev fP:=(Option Int)
def lR(a0 a1:Int):Option (Int):=
 jp (fun (u:Int)=>
  (nz a1).bind fun _=>
   some (ar .rem .i64 u a1)
  ) fun h=>
 bif (cm .lss a0 0) then
  h (IntKind.wrap .i64 (0 - (ar .add .i64 a0 1)))
 else
  h a0
def tX(a0:cW)(a1:Int):Option (Int):=
 bif (cm .eql (a0.length:Int) 0) then
  some (ar .mul .i64 a1 31)
 else
  (nz (a0.length:Int)).bind fun _=>
   (Sw.idx a0 (ar .rem .i64 a1 (a0.length:Int))).bind fun h=>
    (lR h 1000003).bind fun u=>
     (nz (a0.length:Int)).bind fun _=>
      some (ar .add .i64 u (ar .mul .i64 (ar .quo .i64 a1 (a0.length:Int)) 7919))
def kO(a0:cW)(a1:Int):Option (aQ):=
 (tX a0 a1).bind fun u=>
  bif (cm .eql (ar .rem .i64 u 3) 0) then
   some aR
  else
   (Sw.idx aR 0).bind fun _=>
    jp (fun (A:aQ)=>
     some A
     ) fun z=>
    bif (cm .eql (ar .rem .i64 u 3) 2) then
     lp (β:=aQ) (fun (h:Int×aQ)=>
      bif (cm .lss h.1 8) then
       (tX a0 (ar .add .i64 a1 h.1)).bind fun B=>
        (Sw.idx h.2 h.1).bind fun _=>
         some (.next ((ar .add .i64 h.1 1),(List.set h.2 (Int.toNat h.1) (IntKind.wrap .u8 (ar .quo .i64 B 7)))))
      else
       some (.done (.WT h.2))
      ) (1,(List.set aR (Int.toNat 0) (IntKind.wrap .u8 (ar .add .i64 1 (ar .rem .i64 (ar .quo .i64 u 3) 5))))) fun (C:aQ)=>
     z C
    else
     z (List.set aR (Int.toNat 0) (IntKind.wrap .u8 (ar .add .i64 1 (ar .rem .i64 (ar .quo .i64 u 3) 5))))
def lK(a0:cW)(a1 a2 a3:Int):Option ((List uY)):=
 lp (β:=(List uY)) (fun (u:Int×(List uY))=>
  bif (cm .lss u.1 a2) then
   (tX a0 (ar .add .i64 a1 u.1)).bind fun h=>
    (nz a3).bind fun _=>
     jp (fun (D:Bool)=>
      bif D then
       (kO a0 (ar .add .i64 a1 (ar .mul .i64 3 u.1))).bind fun E=>
        (Sw.app u.2 ([(0,(ar .rem .i64 (ar .quo .i64 h 40) a3),(ar .rem .i64 (ar .quo .i64 h 7) 90),E)]:(List uY))).bind fun F=>
         some (.next ((ar .add .i64 u.1 1),F))
      else
       bif (cm .eql (ar .rem .i64 h 20) 5) then
        (Sw.app u.2 ([(1,(ar .rem .i64 (ar .quo .i64 h 40) a3),(ar .rem .i64 (ar .quo .i64 h 7) 90),aR)]:(List uY))).bind fun G=>
         some (.next ((ar .add .i64 u.1 1),G))
       else
        bif (cm .eql (ar .rem .i64 h 20) 6) then
         (Sw.app u.2 ([(2,(ar .rem .i64 (ar .quo .i64 h 40) a3),(ar .rem .i64 (ar .quo .i64 h 7) 90),aR)]:(List uY))).bind fun H=>
          some (.next ((ar .add .i64 u.1 1),H))
        else
         jp (fun (I:Bool)=>
          bif I then
           (Sw.app u.2 ([(3,(ar .rem .i64 (ar .quo .i64 h 40) a3),(ar .rem .i64 (ar .quo .i64 h 7) 90),aR)]:(List uY))).bind fun K=>
            some (.next ((ar .add .i64 u.1 1),K))
          else
           jp (fun (L:Bool)=>
            bif L then
             (Sw.app u.2 ([(4,(ar .rem .i64 (ar .quo .i64 h 40) a3),(ar .rem .i64 (ar .quo .i64 h 7) 90),aR)]:(List uY))).bind fun M=>
              some (.next ((ar .add .i64 u.1 1),M))
            else
             jp (fun (N:Bool)=>
              bif N then
               (Sw.app u.2 ([(5,(ar .rem .i64 (ar .quo .i64 h 40) 7),(ar .rem .i64 (ar .quo .i64 h 7) 90),aR)]:(List uY))).bind fun O=>
                some (.next ((ar .add .i64 u.1 1),O))
              else
               bif (cm .eql (ar .rem .i64 h 20) 16) then
                (Sw.app u.2 ([(6,(ar .rem .i64 (ar .quo .i64 h 40) 7),(ar .rem .i64 (ar .quo .i64 h 7) 90),aR)]:(List uY))).bind fun P=>
                 some (.next ((ar .add .i64 u.1 1),P))
               else
                bif (cm .eql (ar .rem .i64 h 20) 17) then
                 (Sw.app u.2 ([(7,(ar .rem .i64 (ar .quo .i64 h 40) 7),(ar .rem .i64 (ar .quo .i64 h 7) 90),aR)]:(List uY))).bind fun Q=>
                  some (.next ((ar .add .i64 u.1 1),Q))
                else
                 bif (cm .eql (ar .rem .i64 h 20) 18) then
                  (kO a0 (ar .add .i64 a1 (ar .mul .i64 2 u.1))).bind fun R=>
                   (Sw.app u.2 ([(10,(ar .rem .i64 (ar .quo .i64 h 40) 7),(ar .rem .i64 (ar .quo .i64 h 7) 90),R)]:(List uY))).bind fun S=>
                    some (.next ((ar .add .i64 u.1 1),S))
                 else
                  (Sw.app u.2 ([((ar .add .i64 8 (ar .rem .i64 (ar .quo .i64 h 40) 2)),(ar .rem .i64 (ar .quo .i64 h 40) a3),(ar .rem .i64 (ar .quo .i64 h 7) 90),aR)]:(List uY))).bind fun T=>
                   some (.next ((ar .add .i64 u.1 1),T))
              ) fun A=>
             bif (cm .eql (ar .rem .i64 h 20) 13) then
              A (cm .eql (ar .rem .i64 h 20) 13)
             else
              bif (cm .eql (ar .rem .i64 h 20) 14) then
               A (cm .eql (ar .rem .i64 h 20) 14)
              else
               A (cm .eql (ar .rem .i64 h 20) 15)
            ) fun B=>
           bif (cm .eql (ar .rem .i64 h 20) 10) then
            B (cm .eql (ar .rem .i64 h 20) 10)
           else
            bif (cm .eql (ar .rem .i64 h 20) 11) then
             B (cm .eql (ar .rem .i64 h 20) 11)
            else
             B (cm .eql (ar .rem .i64 h 20) 12)
          ) fun C=>
         bif (cm .eql (ar .rem .i64 h 20) 7) then
          C (cm .eql (ar .rem .i64 h 20) 7)
         else
          bif (cm .eql (ar .rem .i64 h 20) 8) then
           C (cm .eql (ar .rem .i64 h 20) 8)
          else
           C (cm .eql (ar .rem .i64 h 20) 9)
      ) fun z=>
     bif (cm .eql (ar .rem .i64 h 20) 0) then
      z (cm .eql (ar .rem .i64 h 20) 0)
     else
      bif (cm .eql (ar .rem .i64 h 20) 1) then
       z (cm .eql (ar .rem .i64 h 20) 1)
      else
       bif (cm .eql (ar .rem .i64 h 20) 2) then
        z (cm .eql (ar .rem .i64 h 20) 2)
       else
        bif (cm .eql (ar .rem .i64 h 20) 3) then
         z (cm .eql (ar .rem .i64 h 20) 3)
        else
         z (cm .eql (ar .rem .i64 h 20) 4)
  else
   some (.done (.WT u.2))
  ) (0,([]:(List uY))) fun (U:(List uY))=>
 some U
def rU(a0:Int):Option (Int×fP):=
 (bif (cm .lss a0 1) then
  some true
 else
  some (cm .gtr a0 32)).bind fun h=>
  bif h then
   some (0,(some 1))
  else
   some ((ar .add .i64 (ar .add .i64 (ar .add .i64 a0 1) 2) (ar .mul .i64 2 (ar .add .i64 a0 1))),(none:Option Int))
def xU(a0:Int):Option (dZ×fP):=
 (bif (cm .lss a0 1) then
  some true
 else
  some (cm .gtr a0 200)).bind fun h=>
  bif h then
   some ((([]:eE),([]:mP),0),(some 1))
  else
   (Sw.mk a0 aR).bind fun u=>
    some ((u,([]:mP),(-1:Int)),(none:Option Int))
def rC(a0:Int):Option (dZ×fP):=
 (rU a0).bind fun h=>
  bif (Option.isSome h.2) then
   some ((([]:eE),([]:mP),0),h.2)
  else
   (xU h.1).bind fun u=>
    some (u.1,u.2)
def lS(a0:(Int×aQ))(a1:dZ):Option (Bool):=
 (bif (cm .lss a0.1 0) then
  some true
 else
  some (cm .geq a0.1 (a1.1.length:Int))).bind fun h=>
  some h
def dN(a0:mP)(XW:dZ):Option (Int):=
 lp (β:=Unit) (fun (h:Int)=>
  bif (cm .lss h (a0.length:Int)) then
   (Sw.idx a0 h).bind fun u=>
    (lS u XW).bind fun z=>
     bif z then
      some (.done (.ret h))
     else
      some (.next (ar .add .i64 h 1))
  else
   some (.done (.WT ()))
  ) 0 fun (_:Unit)=>
 some (-1:Int)
def cJ(a0:mP)(XW:dZ):Option (Bool):=
 (dN a0 XW).bind fun h=>
  some (cm .geq h 0)
def mU(a0:dZ):Option (fP):=
 (bif (cm .lss (a0.1.length:Int) 1) then
  some true
 else
  bif (cm .gtr (a0.1.length:Int) 200) then
   some true
  else
   some (cm .gtr (a0.2.1.length:Int) 800)).bind fun h=>
  bif h then
   some (some 2)
  else
   (cJ a0.2.1 a0).bind fun u=>
    bif u then
     some (some 1)
    else
     some (none:Option Int)
def kC(a0:(Bool×eE)):Option (eE):=
 bif a0.1 then
  some ([]:eE)
 else
  (Sw.app ([]:eE) a0.2).bind fun h=>
   some h
def aP(a0:eE):Option eE:=Sw.app [] a0
def fU(a0:mP):Option (mP):=
 some a0
def iS(a0:dZ)(a1:Int):Option (aQ×fP):=
 (mU a0).bind fun h=>
  bif (Option.isSome h) then
   some (aR,h)
  else
   (bif (cm .lss a1 0) then
    some true
   else
    some (cm .geq a1 (a0.1.length:Int))).bind fun A=>
    bif A then
     some (aR,(some 1))
    else
     bif (cm .eql a0.2.2 0) then
      some (aR,(some 4))
     else
      (fU a0.2.1).bind fun u=>
       (Sw.small u).bind fun _=>
        rg (δ:=aQ) (fun (z:(Int×(Int×aQ))) (_:Unit)=>
         bif (cm .eql z.2.1 a1) then
          some (.done z.2.2)
         else
          some (.next ())
         ) (Sw.H8 u) () (fun (_:Unit)=>
         (Sw.idx a0.1 a1).bind fun B=>
          some (B,(none:Option Int))
         ) fun (C:aQ)=>
         some (C,(none:Option Int))
def gP(a0:aQ):Option (Int):=
 (Sw.idx a0 0).bind fun h=>
  (Sw.idx a0 1).bind fun u=>
   (Sw.idx a0 2).bind fun z=>
    (Sw.idx a0 3).bind fun A=>
     some (ar .or .i64 (ar .or .i64 (ar .or .i64 (sh .shl .i64 h 24) (sh .shl .i64 u 16)) (sh .shl .i64 z 8)) A)
def lT(a0:(Bool×mP)):Option (mP):=
 bif a0.1 then
  some ([]:mP)
 else
  (Sw.app ([]:mP) a0.2).bind fun h=>
   some h
def bV(a0:mP):Option mP:=Sw.app [] a0
def rV(a0:dZ):Option (dZ):=
 (aP a0.1).bind fun h=>
  (bV a0.2.1).bind fun u=>
   some (h,u,a0.2.2)
def jJ(WG:eE)(WQ:mP)(ix:Int):Option (fP×eE×mP×Int):=
 bif (cm .eql ix 0) then
  some ((some 4),WG,WQ,ix)
 else
  jp (fun (u:Int)=>
   some ((none:Option Int),WG,WQ,u)
   ) fun h=>
  bif (cm .gtr ix 0) then
   h (ar .sub .i64 ix 1)
  else
   h ix
def rW(a0:dZ)(a1:Int)(a2:aQ):Option (dZ×fP):=
 (mU a0).bind fun z=>
  bif (Option.isSome z) then
   some ((([]:eE),([]:mP),0),z)
  else
   (bif (cm .lss a1 0) then
    some true
   else
    some (cm .geq a1 (a0.1.length:Int))).bind fun A=>
    bif A then
     some ((([]:eE),([]:mP),0),(some 1))
    else
     bif (cm .eql (a0.2.1.length:Int) 800) then
      some ((([]:eE),([]:mP),0),(some 2))
     else
      (rV a0).bind fun u=>
       (jJ u.1 u.2.1 u.2.2).bind fun h=>
        bif (Option.isSome h.1) then
         some ((([]:eE),([]:mP),0),h.1)
        else
         (Sw.app h.2.2.1 ([(a1,a2)]:mP)).bind fun B=>
          some ((h.2.1,B,h.2.2.2),(none:Option Int))
def eD(WG:Int)(WQ:dZ)(a1:Int)(a2:aQ):Option Bn:=
 (rW WQ a1 a2).bind fun h=>
  jp (fun (z:dZ)=>
   some (h.2,WG,z)
   ) fun u=>
  bif (Option.isNone h.2) then
   u h.1
  else
   u WQ
def gS(WG:Int)(WQ:dZ):Option Bn:=
 (iS WQ (ar .add .i64 WG 2)).bind fun C=>
  lp (β:=fP×Int×dZ) (fun (h:fP×Int×Int×dZ)=>
   (bif (Option.isNone h.1) then
    (gP C.1).bind fun F=>
     some (cm .lss h.2.1 F)
   else
    some false).bind fun G=>
    bif G then
     (iS h.2.2.2 (ar .add .i64 (ar .add .i64 h.2.2.1 3) (ar .mul .i64 2 h.2.1))).bind fun u=>
      jp (fun (z:fP×aQ)=>
       bif (Option.isNone z.1) then
        (gP u.1).bind fun H=>
         (eD h.2.2.1 h.2.2.2 H z.2).bind fun A=>
          some (.next (A.1,(ar .add .i64 h.2.1 1),A.2.1,A.2.2))
       else
        some (.next (z.1,(ar .add .i64 h.2.1 1),h.2.2.1,h.2.2.2))
       ) fun D=>
      bif (Option.isNone u.2) then
       (iS h.2.2.2 (ar .add .i64 (ar .add .i64 h.2.2.1 4) (ar .mul .i64 2 h.2.1))).bind fun E=>
        D (E.2,E.1)
      else
       D (u.2,aR)
    else
     some (.done (.WT (h.1,h.2.2.1,h.2.2.2)))
   ) (C.2,0,WG,WQ) fun (B:fP×Int×dZ)=>
  some (B.1,B.2.1,B.2.2)
def rX(a0:dZ):Option (dZ×fP):=
 (mU a0).bind fun B=>
  bif (Option.isSome B) then
   some ((([]:eE),([]:mP),0),B)
  else
   (rV a0).bind fun z=>
    (jJ z.1 z.2.1 z.2.2).bind fun h=>
     bif (Option.isSome h.1) then
      some ((([]:eE),([]:mP),0),h.1)
     else
      lp (β:=eE) (fun (u:Int×eE)=>
       bif (cm .lss u.1 (h.2.2.1.length:Int)) then
        (Sw.idx h.2.2.1 u.1).bind fun A=>
         (Sw.idx u.2 A.1).bind fun _=>
          some (.next ((ar .add .i64 u.1 1),(List.set u.2 (Int.toNat A.1) A.2)))
       else
        some (.done (.WT u.2))
       ) (0,h.2.1) fun (C:eE)=>
      some ((C,([]:mP),h.2.2.2),(none:Option Int))
def eV(WG:Int)(WQ:dZ):Option Bn:=
 (rX WQ).bind fun h=>
  jp (fun (z:dZ)=>
   some (h.2,WG,z)
   ) fun u=>
  bif (Option.isNone h.2) then
   u h.1
  else
   u WQ
def iT(a1 au:Int)(fh:dZ):Option Bn:=
 (eD au fh (ar .add .i64 au 1) ([a1]++List.replicate 7 0:aQ)).bind fun h=>
  some (h.1,h.2.1,h.2.2)
def lE(q:dL)(n0:Int)(n1:dZ):Option Bn:=match q with
 | .inl z=>iT z.2.2 n0 n1
 | .inr z=>eV n0 n1
def gJ(a0:(List dL))(XW:Int)(m7:dZ):Option Bn:=
 lp (β:=Int×dZ) (fun (h:Int×Int×dZ)=>
  bif (cm .lss h.1 (a0.length:Int)) then
   (Sw.idx a0 h.1).bind fun A=>
    (lE A h.2.1 h.2.2).bind fun u=>
     bif (Option.isSome u.1) then
      some (.done (.ret (u.1,u.2.1,u.2.2)))
     else
      some (.next ((ar .add .i64 h.1 1),u.2.1,u.2.2))
  else
   some (.done (.WT (h.2.1,h.2.2)))
  ) (0,XW,m7) fun (z:Int×dZ)=>
 some ((none:Option Int),z.1,z.2)
def fY(WG:Int)(WQ:dZ)(a1:Int):Option Bn:=
 (gJ ([(.inl ((),((),a1)):dL),(.inr ((),()):dL)]:(List dL)) WG WQ).bind fun h=>
  some (h.1,h.2.1,h.2.2)
def mL(XW:Int)(m7:dZ):Option Bn:=
 (fY XW m7 0).bind fun h=>
  some (h.1,h.2.1,h.2.2)
def nG(q:dI)(n0:Int)(n1:dZ):Option Bn:=match q with
 | .inl z=>gS n0 n1
 | .inr (.inl z)=>eV n0 n1
 | .inr (.inr z)=>mL n0 n1
def iX(a0:(List dI))(XW:Int)(m7:dZ):Option Bn:=
 lp (β:=Int×dZ) (fun (h:Int×Int×dZ)=>
  bif (cm .lss h.1 (a0.length:Int)) then
   (Sw.idx a0 h.1).bind fun A=>
    (nG A h.2.1 h.2.2).bind fun u=>
     bif (Option.isSome u.1) then
      some (.done (.ret (u.1,u.2.1,u.2.2)))
     else
      some (.next ((ar .add .i64 h.1 1),u.2.1,u.2.2))
  else
   some (.done (.WT (h.2.1,h.2.2)))
  ) (0,XW,m7) fun (z:Int×dZ)=>
 some ((none:Option Int),z.1,z.2)
def iU(WG:Int)(WQ:dZ):Option Bn:=
 (iS WQ (ar .add .i64 WG 1)).bind fun h=>
  (bif (Option.isSome h.2) then
   some true
  else
   (Sw.idx h.1 0).bind fun z=>
    some (cm .eql z 0)).bind fun A=>
   bif A then
    some (h.2,WG,WQ)
   else
    (iX ([(.inl ((),()):dI),(.inr (.inl ((),())):dI),(.inr (.inr ((),())):dI)]:(List dI)) WG WQ).bind fun u=>
     some (u.1,u.2.1,u.2.2)
def mV(a0:dZ)(a1:Int):Option ((Option (Int×dZ))×fP):=
 (rU a1).bind fun u=>
  bif (Option.isSome u.2) then
   some ((none:(Option (Int×dZ))),u.2)
  else
   (mU a0).bind fun z=>
    (bif (Option.isSome z) then
     some true
    else
     bif (cm .neq (a0.1.length:Int) u.1) then
      some true
     else
      some (cm .gtr (a0.2.1.length:Int) 0)).bind fun A=>
     bif A then
      some ((none:(Option (Int×dZ))),(some 5))
     else
      (aP a0.1).bind fun B=>
       (iU a1 (B,([]:mP),a0.2.2)).bind fun h=>
        bif (Option.isSome h.1) then
         some ((none:(Option (Int×dZ))),h.1)
        else
         some ((some (h.2.1,h.2.2)),(none:Option Int))
def jC(a0:Int):Option ((Option (Int×dZ))×fP):=
 (rC a0).bind fun h=>
  bif (Option.isSome h.2) then
   some ((none:(Option (Int×dZ))),h.2)
  else
   (mV h.1 a0).bind fun u=>
    vB u.1 (
     some ((none:(Option (Int×dZ))),u.2)
     ) fun z=>
     some ((some (z.1,z.2)),u.2)
def fZ(a0:(Int×dZ)):Option (Int×Int×fP):=
 (iS a0.2 a0.1).bind fun h=>
  bif (Option.isSome h.2) then
   some (0,0,h.2)
  else
   (gP h.1).bind fun u=>
    (Sw.X8 h.1 4 8 8).bind fun z=>
     (Sw.sub h.1 0 4).bind fun A=>
      (Sw.app z A).bind fun B=>
       (Sw.w9 8 B).bind fun C=>
        (gP C).bind fun D=>
         some (u,D,(none:Option Int))
def jD(a0:(Int×aQ))(a1:(Option (Int×dZ))):Option (Bool):=
 (bif (cm .lss a0.1 0) then
  some true
 else
  (a1).bind fun h=>
   some (cm .geq a0.1 h.1)).bind fun u=>
  some u
def cS(a0:mP)(XW:(Option (Int×dZ))):Option (Int):=
 lp (β:=Unit) (fun (h:Int)=>
  bif (cm .lss h (a0.length:Int)) then
   (Sw.idx a0 h).bind fun u=>
    (jD u XW).bind fun z=>
     bif z then
      some (.done (.ret h))
     else
      some (.next (ar .add .i64 h 1))
  else
   some (.done (.WT ()))
  ) 0 fun (_:Unit)=>
 some (-1:Int)
def bY(a0:mP)(XW:(Option (Int×dZ))):Option (Bool):=
 (cS a0 XW).bind fun h=>
  some (cm .geq h 0)
def kD(a0:Int):Option (aQ):=
 some ([(IntKind.wrap .u8 (sh .shr .i64 a0 24)),(IntKind.wrap .u8 (sh .shr .i64 a0 16)),(IntKind.wrap .u8 (sh .shr .i64 a0 8)),(IntKind.wrap .u8 a0)]++List.replicate 4 0:aQ)
def gV(a1:mP)(au:Int)(fh:dZ):Option Bn:=
 (kD (a1.length:Int)).bind fun u=>
  (eD au fh (ar .add .i64 au 2) u).bind fun h=>
   some (h.1,h.2.1,h.2.2)
def gW(a1:Int)(a2:(Int×aQ))(aq:Int)(fg:dZ):Option Bn:=
 (kD a2.1).bind fun u=>
  (eD aq fg (ar .add .i64 (ar .add .i64 aq 3) (ar .mul .i64 2 a1)) u).bind fun h=>
   some (h.1,h.2.1,h.2.2)
def gX(a1:Int)(a2:(Int×aQ))(aq:Int)(fg:dZ):Option Bn:=
 (eD aq fg (ar .add .i64 (ar .add .i64 aq 4) (ar .mul .i64 2 a1)) a2.2).bind fun h=>
  some (h.1,h.2.1,h.2.2)
def gY(XW:Int)(m7:dZ):Option Bn:=
 (fY XW m7 1).bind fun h=>
  some (h.1,h.2.1,h.2.2)
def gZ(XW:Int)(m7:dZ):Option Bn:=
 (fY XW m7 0).bind fun h=>
  some (h.1,h.2.1,h.2.2)
def iG(q:aF)(n0:Int)(n1:dZ):Option Bn:=match q with
 | .inl z=>gV z.2.2 n0 n1
 | .inr (.inl z)=>gW z.2.2.1 z.2.2.2 n0 n1
 | .inr (.inr (.inl z))=>gX z.2.2.1 z.2.2.2 n0 n1
 | .inr (.inr (.inr (.inl z)))=>eV n0 n1
 | .inr (.inr (.inr (.inr (.inl z))))=>gY n0 n1
 | .inr (.inr (.inr (.inr (.inr (.inl z)))))=>gS n0 n1
 | .inr (.inr (.inr (.inr (.inr (.inr (.inl z))))))=>eV n0 n1
 | .inr (.inr (.inr (.inr (.inr (.inr (.inr z))))))=>gZ n0 n1
def eS(a0:(List aF))(XW:Int)(m7:dZ):Option Bn:=
 lp (β:=Int×dZ) (fun (h:Int×Int×dZ)=>
  bif (cm .lss h.1 (a0.length:Int)) then
   (Sw.idx a0 h.1).bind fun A=>
    (iG A h.2.1 h.2.2).bind fun u=>
     bif (Option.isSome u.1) then
      some (.done (.ret (u.1,u.2.1,u.2.2)))
     else
      some (.next ((ar .add .i64 h.1 1),u.2.1,u.2.2))
  else
   some (.done (.WT (h.2.1,h.2.2)))
  ) (0,XW,m7) fun (z:Int×dZ)=>
 some ((none:Option Int),z.1,z.2)
def cZ(WG:Int)(WQ:dZ)(a1:mP)(a2 a3:Int):Option Bn:=
 bif (cm .gtr (a1.length:Int) WG) then
  some ((some 2),WG,WQ)
 else
  (bif (cm .lss (min a2 a3) 0) then
   some true
  else
   bif (cm .gtr (max a2 a3) 2147483647) then
    some true
   else
    (bY a1 (some (WG,WQ))).bind fun B=>
     some B).bind fun C=>
   bif C then
    some ((some 1),WG,WQ)
   else
    (kD a2).bind fun D=>
     (kD a3).bind fun E=>
      (bV a1).bind fun F=>
       (Sw.X8 D 0 4 4).bind fun G=>
        (Sw.sub E 0 4).bind fun H=>
         (Sw.app G H).bind fun I=>
          (Sw.w9 8 I).bind fun K=>
           (Sw.app F ([(WG,K)]:mP)).bind fun u=>
            lp (β:=(List aF)) (fun (h:Int×(List aF))=>
             bif (cm .lss h.1 (u.length:Int)) then
              (Sw.idx u h.1).bind fun A=>
               (Sw.app h.2 ([(.inr (.inl ((),((),(h.1,A)))):aF),(.inr (.inr (.inl ((),((),(h.1,A))))):aF)]:(List aF))).bind fun L=>
                some (.next ((ar .add .i64 h.1 1),L))
             else
              some (.done (.WT h.2))
             ) (0,([(.inl ((),((),u)):aF)]:(List aF))) fun (M:(List aF))=>
            (Sw.app M ([(.inr (.inr (.inr (.inl ((),())))):aF),(.inr (.inr (.inr (.inr (.inl ((),()))))):aF),(.inr (.inr (.inr (.inr (.inr (.inl ((),())))))):aF),(.inr (.inr (.inr (.inr (.inr (.inr (.inl ((),()))))))):aF),(.inr (.inr (.inr (.inr (.inr (.inr (.inr ((),()))))))):aF)]:(List aF))).bind fun N=>
             (eS N WG WQ).bind fun z=>
              some (z.1,z.2.1,z.2.2)
def jE(b0 b1 b2 b3:Int)(b4:eE)(b5:pC)(b6:sI)(b7:Int)(b8:pL)(b9 XG:Int)(XF:cW)(XN XB XK XE:Int)(XJ:qS)(WZ:mJ)(XV:Int)(XU:dZ):Option (fP×Int×Int×Int×dZ):=
 (fZ (XV,XU)).bind fun h=>
  bif (Option.isSome h.2.2) then
   some (h.2.2,b2,b3,XV,XU)
  else
   (cZ XV XU ([]:mP) h.1 (ar .add .i64 h.2.1 1)).bind fun u=>
    some (u.1,h.1,(ar .add .i64 h.2.1 1),u.2.1,u.2.2)
def kK(a0:(Int×dZ))(a1:Int):Option (aQ×fP):=
 (bif (cm .lss a1 0) then
  some true
 else
  some (cm .geq a1 a0.1)).bind fun u=>
  bif u then
   some (aR,(some 1))
  else
   (iS a0.2 a1).bind fun h=>
    some (h.1,h.2)
def gD(a0:(Int×dZ)):Option (eE×fP):=
 lp (β:=eE) (fun (h:Int×eE)=>
  bif (cm .lss h.1 a0.1) then
   (kK a0 h.1).bind fun u=>
    bif (Option.isSome u.2) then
     some (.done (.ret (([]:eE),u.2)))
    else
     (Sw.app h.2 ([u.1]:eE)).bind fun z=>
      some (.next ((ar .add .i64 h.1 1),z))
  else
   some (.done (.WT h.2))
  ) (0,([]:eE)) fun (A:eE)=>
 some (A,(none:Option Int))
def fR(b0 b1 b2 b3:Int)(b4:eE)(b5:pC)(b6:sI)(b7:Int)(b8:pL)(b9 XG:Int)(XF:cW)(XN XB XK XE:Int)(XJ:qS)(WZ:mJ)(XV:Int)(XU:dZ):Option (sI):=
 (aP b4).bind fun h=>
  (Hn b6 b2 h).bind fun u=>
   some (Gm u (ar .sub .i64 (ar .sub .i64 b2 4) 1))
def fE(b0 b1 b2 b3:Int)(b4:eE)(b5:pC)(b6:sI)(b7:Int)(b8:pL)(b9 XG:Int)(XF:cW)(XN XB XK XE:Int)(XJ:qS)(WZ:mJ)(XV:Int)(XU:dZ):Option (fP×Int×Int×Int×eE×pC×sI×Int×pL×Int×Int×cW×Int×dZ):=
 (jE b0 b0 0 0 ([]:eE) (0,([]:mP),([]:sL),false) ([]:List (Int×eE)) (-1:Int) (0,0,([]:wY)) 0 0 ([]:cW) XN XB XK XE XJ WZ XV XU).bind fun h=>
  bif (Option.isSome h.1) then
   some (h.1,b0,h.2.1,h.2.2.1,([]:eE),(0,([]:mP),([]:sL),false),([]:List (Int×eE)),(-1:Int),(0,0,([]:wY)),0,0,([]:cW),h.2.2.2.1,h.2.2.2.2)
  else
   (gD h.2.2.2).bind fun u=>
    (fR b0 b0 h.2.1 h.2.2.1 u.1 (h.2.1,([]:mP),([]:sL),true) ([]:List (Int×eE)) (-1:Int) (0,0,([]:wY)) 0 0 ([]:cW) XN XB XK XE XJ WZ h.2.2.2.1 h.2.2.2.2).bind fun z=>
     some (u.2,b0,h.2.1,h.2.2.1,u.1,(h.2.1,([]:mP),([]:sL),true),z,(-1:Int),(0,0,([]:wY)),0,0,([]:cW),h.2.2.2.1,h.2.2.2.2)
def gH(b0 b1 b2 b3:Int)(b4:eE)(b5:pC)(b6:sI)(b7:Int)(b8:pL)(b9 XG:Int)(XF:cW)(XN XB XK XE:Int)(XJ:qS)(WZ:mJ)(XV:Int)(XU:dZ)(XT:Int)(XS:dZ):Option (fP×Int×Int×Int×dZ):=
 (fZ (XT,XS)).bind fun h=>
  bif (Option.isSome h.2.2) then
   some (h.2.2,XB,XK,XT,XS)
  else
   (cZ XT XS ([]:mP) h.1 (ar .add .i64 h.2.1 1)).bind fun u=>
    some (u.1,h.1,(ar .add .i64 h.2.1 1),u.2.1,u.2.2)
def gN(b0 b1 b2 b3:Int)(b4:eE)(b5:pC)(b6:sI)(b7:Int)(b8:pL)(b9 XG:Int)(XF:cW)(XN XB XK XE:Int)(XJ:qS)(WZ:mJ)(XV:Int)(XU:dZ)(XT:Int)(XS:dZ):Option (fP×Int×Int×Int×Int×qS×Int×dZ):=
 (gH b0 b1 b2 b3 b4 b5 b6 b7 b8 b9 XG XF b0 0 0 (-1:Int) (0,0) WZ XV XU XT XS).bind fun h=>
  some (h.1,b0,h.2.1,h.2.2.1,(-1:Int),(0,0),h.2.2.2.1,h.2.2.2.2)
def iH(a0:Int):Option ((Option (Int×Int×Int×Int×eE×pC×sI×Int×pL×Int×Int×cW×Int×Int×Int×Int×qS×mJ×Int×dZ×Int×dZ))×fP):=
 (jC a0).bind fun z=>
  vB z.1 (
   bif (Option.isSome z.2) then
    some ((none:_),z.2)
   else
    (jC a0).bind fun A=>
     vB A.1 (
      bif (Option.isSome A.2) then
       some ((none:_),A.2)
      else
       none
      ) fun _=>
      bif (Option.isSome A.2) then
       some ((none:_),A.2)
      else
       none
   ) fun C=>
   bif (Option.isSome z.2) then
    some ((none:_),z.2)
   else
    (jC a0).bind fun B=>
     vB B.1 (
      bif (Option.isSome B.2) then
       some ((none:_),B.2)
      else
       (fE a0 a0 0 0 ([]:eE) (0,([]:mP),([]:sL),false) ([]:sI) 0 (0,0,([]:wY)) 0 0 ([]:cW) a0 0 0 0 (0,0) ([]:mJ) C.1 C.2).bind fun D=>
        bif (Option.isSome D.1) then
         some ((none:_),D.1)
        else
         none
      ) fun E=>
      bif (Option.isSome B.2) then
       some ((none:_),B.2)
      else
       (fE a0 a0 0 0 ([]:eE) (0,([]:mP),([]:sL),false) ([]:sI) 0 (0,0,([]:wY)) 0 0 ([]:cW) a0 0 0 0 (0,0) ([]:mJ) C.1 C.2).bind fun h=>
        bif (Option.isSome h.1) then
         some ((none:_),h.1)
        else
         (gN a0 h.2.1 h.2.2.1 h.2.2.2.1 h.2.2.2.2.1 h.2.2.2.2.2.1 h.2.2.2.2.2.2.1 h.2.2.2.2.2.2.2.1 h.2.2.2.2.2.2.2.2.1 h.2.2.2.2.2.2.2.2.2.1 h.2.2.2.2.2.2.2.2.2.2.1 h.2.2.2.2.2.2.2.2.2.2.2.1 a0 0 0 0 (0,0) ([]:mJ) h.2.2.2.2.2.2.2.2.2.2.2.2.1 h.2.2.2.2.2.2.2.2.2.2.2.2.2 E.1 E.2).bind fun u=>
          some ((some (a0,h.2.1,h.2.2.1,h.2.2.2.1,h.2.2.2.2.1,h.2.2.2.2.2.1,h.2.2.2.2.2.2.1,h.2.2.2.2.2.2.2.1,h.2.2.2.2.2.2.2.2.1,h.2.2.2.2.2.2.2.2.2.1,h.2.2.2.2.2.2.2.2.2.2.1,h.2.2.2.2.2.2.2.2.2.2.2.1,u.2.1,u.2.2.1,u.2.2.2.1,u.2.2.2.2.1,u.2.2.2.2.2.1,([]:mJ),h.2.2.2.2.2.2.2.2.2.2.2.2.1,h.2.2.2.2.2.2.2.2.2.2.2.2.2,u.2.2.2.2.2.2.1,u.2.2.2.2.2.2.2)),u.1)
def uL(a0:Int):Option (Nat):=
 bif (cm .eql a0 0) then
  some (0:Nat)
 else
  bif (cm .eql a0 1) then
   some (1:Nat)
  else
   bif (cm .eql a0 2) then
    some (2:Nat)
   else
    bif (cm .eql a0 3) then
     some (3:Nat)
    else
     bif (cm .eql a0 4) then
      some (4:Nat)
     else
      bif (cm .eql a0 5) then
       some (5:Nat)
      else
       bif (cm .eql a0 6) then
        some (6:Nat)
       else
        bif (cm .eql a0 7) then
         some (7:Nat)
        else
         bif (cm .eql a0 8) then
          some (8:Nat)
         else
          bif (cm .eql a0 9) then
           some (9:Nat)
          else
           bif (cm .eql a0 10) then
            some (10:Nat)
           else
            some (11:Nat)
def lU(a0:mP)(a1:Int):Option (Bool):=
 lp (β:=Unit) (fun (h:Int×Int)=>
  bif (cm .lss h.2 (a0.length:Int)) then
   (Sw.idx a0 h.2).bind fun u=>
    (bif (cm .leq u.1 h.1) then
     some true
    else
     some (cm .geq u.1 a1)).bind fun z=>
     bif z then
      some (.done (.ret false))
     else
      some (.next (u.1,(ar .add .i64 h.2 1)))
  else
   some (.done (.WT ()))
  ) ((-1:Int),0) fun (_:Unit)=>
 some true
def lI(a0:pC)(a1:Int):Option (fP):=
 (bif (cm .lss a1 1) then
  some true
 else
  bif (cm .gtr a1 32) then
   some true
  else
   bif (cm .lss a0.1 0) then
    some true
   else
    some (cm .gtr a0.1 2147483647)).bind fun z=>
  bif z then
   some (some 1)
  else
   bif (cm .gtr (a0.2.2.1.length:Int) 4) then
    some (some 2)
   else
    ((lU a0.2.1 a1).bind fun A=>
     bif (!A) then
      some true
     else
      bif a0.2.2.2 then
       some (cm .gtr (a0.2.2.1.length:Int) 0)
      else
       some false).bind fun B=>
     bif B then
      some (some 3)
     else
      lp (β:=Unit) (fun (h:Int)=>
       bif (cm .lss h (a0.2.2.1.length:Int)) then
        (Sw.idx a0.2.2.1 h).bind fun u=>
         ((lU u.2 a1).bind fun C=>
          bif (!C) then
           some true
          else
           bif (cm .neq u.1 (ar .add .i64 (ar .add .i64 (ar .sub .i64 a0.1 (a0.2.2.1.length:Int)) 1) h)) then
            some true
           else
            some (cm .lss u.1 1)).bind fun D=>
          bif D then
           some (.done (.ret (some 3)))
          else
           some (.next (ar .add .i64 h 1))
       else
        some (.done (.WT ()))
       ) 0 fun (_:Unit)=>
      some (none:Option Int)
def jF(a0:(Bool×sL)):Option (sL):=
 bif a0.1 then
  some ([]:sL)
 else
  (Sw.app ([]:sL) a0.2).bind fun h=>
   some h
def gO(a0:sL):Option sL:=Sw.app [] a0
def nH(a0:pC):Option (pC):=
 (bV a0.2.1).bind fun z=>
  (gO a0.2.2.1).bind fun u=>
   lp (β:=sL) (fun (h:Int×sL)=>
    bif (cm .lss h.1 (u.length:Int)) then
     (Sw.idx h.2 h.1).bind fun A=>
      (bV A.2).bind fun B=>
       (Sw.idx h.2 h.1).bind fun C=>
        some (.next ((ar .add .i64 h.1 1),(List.set h.2 (Int.toNat h.1) (C.1,B))))
    else
     some (.done (.WT h.2))
    ) (0,u) fun (D:sL)=>
   some (a0.1,z,D,a0.2.2.2)
def sX(a0:(Int×aQ))(a1:Int):Option (Int):=
 some (ar .sub .i64 a0.1 a1)
def bZ(a0:mP)(a1:Int):Option (Int×Bool):=
 lp (β:=Int) (fun (h:Int×Int)=>
  bif (cm .lss h.1 h.2) then
   (Sw.idx a0 (IntKind.wrap .i64 (sh .shr .u64 (IntKind.wrap .u64 (ar .add .i64 h.1 h.2)) 1))).bind fun z=>
    (sX z a1).bind fun A=>
     bif (cm .lss A 0) then
      some (.next ((ar .add .i64 (IntKind.wrap .i64 (sh .shr .u64 (IntKind.wrap .u64 (ar .add .i64 h.1 h.2)) 1)) 1),h.2))
     else
      some (.next (h.1,(IntKind.wrap .i64 (sh .shr .u64 (IntKind.wrap .u64 (ar .add .i64 h.1 h.2)) 1))))
  else
   some (.done (.WT h.1))
  ) (0,(a0.length:Int)) fun (u:Int)=>
 (bif (cm .lss u (a0.length:Int)) then
  (Sw.idx a0 u).bind fun B=>
   (sX B a1).bind fun C=>
    some (cm .eql C 0)
 else
  some false).bind fun D=>
  some (u,D)
def gK(a0:mP)(a1:Int)(a2:mP):Option (mP):=Sw.ins a0 a1 a2
def tY(a0:pC)(a1:Int)(a2:(Int×aQ)):Option (pC×fP):=
 (lI a0 a1).bind fun z=>
  bif (Option.isSome z) then
   some ((0,([]:mP),([]:sL),false),z)
  else
   (bif (cm .lss a2.1 0) then
    some true
   else
    some (cm .geq a2.1 a1)).bind fun B=>
    bif B then
     some ((0,([]:mP),([]:sL),false),(some 1))
    else
     (nH a0).bind fun h=>
      (bZ h.2.1 a2.1).bind fun u=>
       jp (fun (C:mP)=>
        some ((h.1,C,h.2.2.1,h.2.2.2),(none:Option Int))
        ) fun A=>
       bif u.2 then
        (Sw.idx h.2.1 u.1).bind fun _=>
         A (List.set h.2.1 (Int.toNat u.1) a2)
       else
        (gK h.2.1 u.1 ([a2]:mP)).bind fun D=>
         A D
def eW(a1:Int)(a2:aQ)(b0 b1 b2 b3:Int)(b4:eE)(b5:pC)(b6:sI)(b7:Int)(b8:pL)(b9 XG:Int)(XF:cW)(XN XB XK XE:Int)(XJ:qS)(WZ:mJ)(XV:Int)(XU:dZ)(XT:Int)(XS:dZ):Option (fP×eE×pC):=
 (tY b5 b0 (a1,a2)).bind fun h=>
  bif (Option.isSome h.2) then
   some (h.2,b4,b5)
  else
   (Sw.idx b4 a1).bind fun _=>
    some ((none:Option Int),(List.set b4 (Int.toNat a1) a2),h.1)
def nP(a1:uY)(b0 b1 b2 b3:Int)(b4:eE)(b5:pC)(b6:sI)(b7:Int)(b8:pL)(b9 XG:Int)(XF:cW)(XN XB XK XE:Int)(XJ:qS)(WZ:mJ)(XV:Int)(XU:dZ)(XT:Int)(XS:dZ):Option (aQ×fP×Int×Int×Int×Int×eE×pC×sI×Int×pL×Int×Int×cW×Int×Int×Int×Int×qS×mJ×Int×dZ×Int×dZ):=
 (eW a1.2.1 a1.2.2.2 b0 b1 b2 b3 b4 b5 b6 b7 b8 b9 XG XF XN XB XK XE XJ WZ XV XU XT XS).bind fun h=>
  some (aR,h.1,b0,b1,b2,b3,h.2.1,h.2.2,b6,b7,b8,b9,XG,XF,XN,XB,XK,XE,XJ,WZ,XV,XU,XT,XS)
def nQ(a1:uY)(b0 b1 b2 b3:Int)(b4:eE)(b5:pC)(b6:sI)(b7:Int)(b8:pL)(b9 XG:Int)(XF:cW)(XN XB XK XE:Int)(XJ:qS)(WZ:mJ)(XV:Int)(XU:dZ)(XT:Int)(XS:dZ):Option (aQ×fP×Int×Int×Int×Int×eE×pC×sI×Int×pL×Int×Int×cW×Int×Int×Int×Int×qS×mJ×Int×dZ×Int×dZ):=
 (eW a1.2.1 aR b0 b1 b2 b3 b4 b5 b6 b7 b8 b9 XG XF XN XB XK XE XJ WZ XV XU XT XS).bind fun h=>
  some (aR,h.1,b0,b1,b2,b3,h.2.1,h.2.2,b6,b7,b8,b9,XG,XF,XN,XB,XK,XE,XJ,WZ,XV,XU,XT,XS)
def gA(a1 b0 b1 b2 b3:Int)(b4:eE)(b5:pC)(b6:sI)(b7:Int)(b8:pL)(b9 XG:Int)(XF:cW)(XN XB XK XE:Int)(XJ:qS)(WZ:mJ)(XV:Int)(XU:dZ)(XT:Int)(XS:dZ):Option (aQ×fP):=
 (bif (cm .lss a1 0) then
  some true
 else
  some (cm .geq a1 b0)).bind fun h=>
  bif h then
   some (aR,(some 1))
  else
   (Sw.idx b4 a1).bind fun u=>
    some (u,(none:Option Int))
def nR(a1:uY)(b0 b1 b2 b3:Int)(b4:eE)(b5:pC)(b6:sI)(b7:Int)(b8:pL)(b9 XG:Int)(XF:cW)(XN XB XK XE:Int)(XJ:qS)(WZ:mJ)(XV:Int)(XU:dZ)(XT:Int)(XS:dZ):Option (aQ×fP×Int×Int×Int×Int×eE×pC×sI×Int×pL×Int×Int×cW×Int×Int×Int×Int×qS×mJ×Int×dZ×Int×dZ):=
 (gA a1.2.1 b0 b1 b2 b3 b4 b5 b6 b7 b8 b9 XG XF XN XB XK XE XJ WZ XV XU XT XS).bind fun h=>
  some (h.1,h.2,b0,b1,b2,b3,b4,b5,b6,b7,b8,b9,XG,XF,XN,XB,XK,XE,XJ,WZ,XV,XU,XT,XS)
def jR(a1:mP)(a2 b0 b1 b2 b3:Int)(b4:eE)(b5:pC)(b6:sI)(b7:Int)(b8:pL)(b9 XG:Int)(XF:cW)(XN XB XK XE:Int)(XJ:qS)(WZ:mJ)(XV:Int)(XU:dZ)(XT:Int)(XS:dZ):Option (fP×Int×Int×dZ):=
 (cZ XV XU a1 a2 b3).bind fun h=>
  bif (Option.isSome h.1) then
   some (h.1,b2,h.2.1,h.2.2)
  else
   some ((none:Option Int),a2,h.2.1,h.2.2)
def rY(a0:pC)(a1:Int):Option (pC×fP):=
 (lI a0 a1).bind fun u=>
  bif (Option.isSome u) then
   some ((0,([]:mP),([]:sL),false),u)
  else
   bif (cm .eql a0.1 2147483647) then
    some ((0,([]:mP),([]:sL),false),(some 2))
   else
    (nH a0).bind fun h=>
     bif h.2.2.2 then
      some (((ar .add .i64 h.1 1),([]:mP),h.2.2.1,h.2.2.2),(none:Option Int))
     else
      bif (cm .eql (h.2.2.1.length:Int) 4) then
       some (((ar .add .i64 h.1 1),([]:mP),([]:sL),true),(none:Option Int))
      else
       (Sw.app h.2.2.1 ([((ar .add .i64 h.1 1),h.2.1)]:sL)).bind fun z=>
        some (((ar .add .i64 h.1 1),([]:mP),z,h.2.2.2),(none:Option Int))
def eO(b0 b1 b2 b3:Int)(b4:eE)(b5:pC)(b6:sI)(b7:Int)(b8:pL)(b9 XG:Int)(XF:cW)(XN XB XK XE:Int)(XJ:qS)(WZ:mJ)(XV:Int)(XU:dZ)(XT:Int)(XS:dZ):Option (sI):=
 (aP b4).bind fun h=>
  (Hn b6 b2 h).bind fun u=>
   some (Gm u (ar .sub .i64 (ar .sub .i64 b2 4) 1))
def fW(b0 b1 b2 b3:Int)(b4:eE)(b5:pC)(b6:sI)(b7:Int)(b8:pL)(b9 XG:Int)(XF:cW)(XN XB XK XE:Int)(XJ:qS)(WZ:mJ)(XV:Int)(XU:dZ)(XT:Int)(XS:dZ):Option (fP×Int×pC×sI×Int×dZ):=
 (jR b5.2.1 (ar .add .i64 b2 1) b0 b1 b2 b3 b4 b5 b6 b7 b8 b9 XG XF XN XB XK XE XJ WZ XV XU XT XS).bind fun h=>
  bif (Option.isSome h.1) then
   some (h.1,h.2.1,b5,b6,h.2.2.1,h.2.2.2)
  else
   (rY b5 b1).bind fun u=>
    (eO b0 b1 h.2.1 b3 b4 u.1 b6 b7 b8 b9 XG XF XN XB XK XE XJ WZ h.2.2.1 h.2.2.2 XT XS).bind fun z=>
     some (u.2,h.2.1,u.1,z,h.2.2.1,h.2.2.2)
def nS(a1:uY)(b0 b1 b2 b3:Int)(b4:eE)(b5:pC)(b6:sI)(b7:Int)(b8:pL)(b9 XG:Int)(XF:cW)(XN XB XK XE:Int)(XJ:qS)(WZ:mJ)(XV:Int)(XU:dZ)(XT:Int)(XS:dZ):Option (aQ×fP×Int×Int×Int×Int×eE×pC×sI×Int×pL×Int×Int×cW×Int×Int×Int×Int×qS×mJ×Int×dZ×Int×dZ):=
 (fW b0 b1 b2 b3 b4 b5 b6 b7 b8 b9 XG XF XN XB XK XE XJ WZ XV XU XT XS).bind fun h=>
  some (aR,h.1,b0,b1,h.2.1,b3,b4,h.2.2.1,h.2.2.2.1,b7,b8,b9,XG,XF,XN,XB,XK,XE,XJ,WZ,h.2.2.2.2.1,h.2.2.2.2.2,XT,XS)
def pV(a0:Int):Option (Bool):=
 (bif (cm .lss a0 0) then
  some true
 else
  some (cm .gtr a0 2147483647)).bind fun h=>
  some h
def eG(a0:cW):Option (Int):=
 lp (β:=Unit) (fun (h:Int)=>
  bif (cm .lss h (a0.length:Int)) then
   (Sw.idx a0 h).bind fun u=>
    (pV u).bind fun z=>
     bif z then
      some (.done (.ret h))
     else
      some (.next (ar .add .i64 h 1))
  else
   some (.done (.WT ()))
  ) 0 fun (_:Unit)=>
 some (-1:Int)
def dA(a0:cW):Option (Bool):=
 (eG a0).bind fun h=>
  some (cm .geq h 0)
def qE(a0:(Int×cW×eE)):Option (fP):=
 (bif (cm .lss a0.1 0) then
  some true
 else
  some (cm .gtr a0.1 15)).bind fun h=>
  bif h then
   some (some 1)
  else
   (bif (cm .gtr (a0.2.1.length:Int) 12) then
    some true
   else
    some (cm .gtr (a0.2.2.length:Int) 32)).bind fun u=>
    bif u then
     some (some 2)
    else
     (dA a0.2.1).bind fun z=>
      bif z then
       some (some 1)
      else
       some (none:Option Int)
def tZ(a0:cW):Option (Int):=
 lp (β:=Int) (fun (h:Int×Int)=>
  bif (cm .lss h.2 (a0.length:Int)) then
   (Sw.idx a0 h.2).bind fun z=>
    lp (β:=Int) (fun (u:Int×Int)=>
     bif (cm .lss u.2 8) then
      some (.next ((ar .xor .u32 (sh .shr .u32 u.1 1) (ar .mul .u32 3988292384 (ar .and .u32 u.1 1))),(ar .add .i64 u.2 1)))
     else
      some (.done (.WT u.1))
     ) ((ar .xor .u32 h.1 z),0) fun (A:Int)=>
    some (.next (A,(ar .add .i64 h.2 1)))
  else
   some (.done (.WT h.1))
  ) (4294967295,0) fun (B:Int)=>
 some (CV .u32 B)
def mW(a0:(Int×cW×eE)):Option (cW×fP):=
 (qE a0).bind fun B=>
  bif (Option.isSome B) then
   some (([]:cW),B)
  else
   lp (β:=cW) (fun (u:Int×cW)=>
    bif (cm .lss u.1 (a0.2.1.length:Int)) then
     (Sw.idx a0.2.1 u.1).bind fun E=>
      lp (β:=Int×cW) (fun (h:Int×cW)=>
       bif (cm .gtr h.1 127) then
        (Sw.app h.2 ([(ar .or .u8 (IntKind.wrap .u8 h.1) 128)]:cW)).bind fun F=>
         some (.next ((sh .shr .i64 h.1 7),F))
       else
        some (.done (.WT (h.1,h.2)))
       ) (E,u.2) fun (C:Int×cW)=>
      (Sw.app C.2 ([(IntKind.wrap .u8 C.1)]:cW)).bind fun G=>
       some (.next ((ar .add .i64 u.1 1),G))
    else
     some (.done (.WT u.2))
    ) (0,([(ar .or .u8 (sh .shl .u8 (IntKind.wrap .u8 a0.1) 4) (IntKind.wrap .u8 (a0.2.1.length:Int))),(IntKind.wrap .u8 (a0.2.2.length:Int))]:cW)) fun (H:cW)=>
   lp (β:=cW) (fun (z:Int×cW)=>
    bif (cm .lss z.1 (a0.2.2.length:Int)) then
     (Sw.idx a0.2.2 z.1).bind fun I=>
      (Sw.app z.2 I).bind fun K=>
       some (.next ((ar .add .i64 z.1 1),K))
    else
     some (.done (.WT z.2))
    ) (0,H) fun (D:cW)=>
   (tZ D).bind fun A=>
    (Sw.app D ([(IntKind.wrap .u8 (sh .shr .u32 A 24)),(IntKind.wrap .u8 (sh .shr .u32 A 16)),(IntKind.wrap .u8 (sh .shr .u32 A 8)),(IntKind.wrap .u8 A)]:cW)).bind fun L=>
     some (L,(none:Option Int))
def eM(a1:Bool)(a2:(Bool×cW))(b0 b1 b2 b3:Int)(b4:eE)(b5:pC)(b6:sI)(b7:Int)(b8:pL)(b9 XG:Int)(XF:cW)(XN XB XK XE:Int)(XJ:qS)(WZ:mJ)(XV:Int)(XU:dZ)(XT:Int)(XS:dZ):Option (mJ):=
 (bif (!a2.1) then
  some (cm .lss (WZ.length:Int) 64)
 else
  some false).bind fun h=>
  bif h then
   (Sw.app WZ ([(a1,false,a2.2)]:mJ)).bind fun u=>
    some u
  else
   some WZ
def iV(a1:Bool)(a2:(Int×cW×eE))(b0 b1 b2 b3:Int)(b4:eE)(b5:pC)(b6:sI)(b7:Int)(b8:pL)(b9 XG:Int)(XF:cW)(XN XB XK XE:Int)(XJ:qS)(WZ:mJ)(XV:Int)(XU:dZ)(XT:Int)(XS:dZ):Option (fP×mJ):=
 (mW a2).bind fun h=>
  jp (fun (z:mJ)=>
   some (h.2,z)
   ) fun u=>
  bif (Option.isNone h.2) then
   (HR h.1).bind fun _=>
    (eM a1 (false,h.1) b0 b1 b2 b3 b4 b5 b6 b7 b8 b9 XG XF XN XB XK XE XJ WZ XV XU XT XS).bind fun A=>
     u A
  else
   u WZ
def nI(a0:pC)(a1 a2:Int):Option ((Int×mP)×Bool×fP):=
 (lI a0 a1).bind fun B=>
  bif (Option.isSome B) then
   some ((0,([]:mP)),false,B)
  else
   (bif (cm .lss a2 0) then
    some true
   else
    some (cm .gtr a2 a0.1)).bind fun E=>
    bif E then
     some ((0,([]:mP)),false,(some 1))
    else
     bif (cm .gtr (ar .sub .i64 a0.1 a2) (a0.2.2.1.length:Int)) then
      some ((0,([]:mP)),false,(none:Option Int))
     else
      lp (β:=(List (Option (Int×aQ)))) (fun (z:Int×(List (Option (Int×aQ))))=>
       bif (cm .lss z.1 (a0.2.2.1.length:Int)) then
        (Sw.idx a0.2.2.1 z.1).bind fun A=>
         lp (β:=(List (Option (Int×aQ)))) (fun (h:Int×(List (Option (Int×aQ))))=>
          bif (cm .lss h.1 (A.2.length:Int)) then
           bif (cm .gtr A.1 a2) then
            (Sw.idx A.2 h.1).bind fun C=>
             (Sw.idx A.2 h.1).bind fun F=>
              (Sw.idx h.2 C.1).bind fun _=>
               some (.next ((ar .add .i64 h.1 1),(List.set h.2 (Int.toNat C.1) (some F))))
           else
            some (.next ((ar .add .i64 h.1 1),h.2))
          else
           some (.done (.WT h.2))
          ) (0,z.2) fun (G:(List (Option (Int×aQ))))=>
         some (.next ((ar .add .i64 z.1 1),G))
       else
        some (.done (.WT z.2))
       ) (0,(List.replicate 32 (none:(Option (Int×aQ))))) fun (H:(List (Option (Int×aQ))))=>
      lp (β:=mP) (fun (u:Int×mP)=>
       bif (cm .lss u.1 32) then
        (Sw.idx H u.1).bind fun D=>
         bif (Option.isSome D) then
          (D).bind fun I=>
           (Sw.app u.2 ([I]:mP)).bind fun K=>
            some (.next ((ar .add .i64 u.1 1),K))
         else
          some (.next ((ar .add .i64 u.1 1),u.2))
       else
        some (.done (.WT u.2))
       ) (0,([]:mP)) fun (L:mP)=>
      some ((a0.1,L),true,(none:Option Int))
def qF(a0:eE):Option (fP):=
 bif (cm .gtr (a0.length:Int) 8) then
  some (some 2)
 else
  lp (β:=Unit) (fun (h:Int×(List (aQ×Bool)))=>
   bif (cm .lss h.1 (a0.length:Int)) then
    (Sw.idx a0 h.1).bind fun u=>
     bif ((fQ h.2 u).getD false) then
      some (.done (.ret (some 3)))
     else
      (Hn h.2 u true).bind fun z=>
       some (.next ((ar .add .i64 h.1 1),z))
   else
    some (.done (.WT ()))
   ) (0,([]:List (aQ×Bool))) fun (_:Unit)=>
  some (none:Option Int)
def nZ(a0 a1:eE):Option (fP):=
 (bif (cm .lss (a0.length:Int) 1) then
  some true
 else
  some (cm .gtr (a0.length:Int) 32)).bind fun h=>
  bif h then
   some (some 1)
  else
   (qF a1).bind fun u=>
    some u
def wD(a0:eE):Option ((Option (eE×(List (aQ×cW))))×fP):=
 (bif (cm .lss (a0.length:Int) 1) then
  some true
 else
  some (cm .gtr (a0.length:Int) 32)).bind fun z=>
  bif z then
   some ((none:(Option (eE×(List (aQ×cW))))),(some 1))
  else
   (aP a0).bind fun A=>
    lp (β:=(List (aQ×cW))) (fun (h:Int×(List (aQ×cW)))=>
     bif (cm .lss h.1 (a0.length:Int)) then
      (Sw.idx a0 h.1).bind fun B=>
       (Ss h.2 B).bind fun u=>
        (Sw.app u.2.2 ([h.1]:cW)).bind fun C=>
         some (.next ((ar .add .i64 h.1 1),wL u.1 u.2.1 C))
     else
      some (.done (.WT h.2))
     ) (0,([]:List (aQ×cW))) fun (D:(List (aQ×cW)))=>
    some ((some (A,D)),(none:Option Int))
def vI(a0:Unit)(a1:(Int×aQ)):Option (uY×Bool):=
 some ((a1.1,0,0,aR),(decide (a1.2=aR)))
def lV(a0:(Option (eE×(List (aQ×cW)))))(a1:aQ):Option (Int×Bool):=
 (a0).bind fun h=>
  bif (cm .eql (((fQ h.2 a1).getD ([]:cW)).length:Int) 0) then
   some (0,false)
  else
   (Sw.idx ((fQ h.2 a1).getD ([]:cW)) 0).bind fun u=>
    some (u,true)
def oA(a0:((Option (eE×(List (aQ×cW))))))(a1:(Int×aQ)):Option (uY×Bool):=
 (lV a0 a1.2).bind fun h=>
  some ((a1.1,1,h.1,aR),h.2)
def eJ(a0:eE)(a1:aQ):Option (Int):=
 lp (β:=Unit) (fun (h:Int)=>
  bif (cm .lss h (a0.length:Int)) then
   (Sw.idx a0 h).bind fun u=>
    bif (decide (a1=u)) then
     some (.done (.ret h))
    else
     some (.next (ar .add .i64 h 1))
  else
   some (.done (.WT ()))
  ) 0 fun (_:Unit)=>
 some (-1:Int)
def uM(a0:eE)(a1:aQ):Option (Int×Bool):=
 (eJ a0 a1).bind fun h=>
  some ((max h 0),(cm .geq h 0))
def lW(a0:(eE))(a1:(Int×aQ)):Option (uY×Bool):=
 (uM a0 a1.2).bind fun h=>
  some ((a1.1,2,h.1,aR),h.2)
def sN(a0:Unit)(a1:(Int×aQ)):Option (uY×Bool):=
 some ((a1.1,3,0,a1.2),true)
def jG(w:lQ)(p0:(Int×aQ)):Option (uY×Bool):=match w with
 | .inl z=>vI z p0
 | .inr (.inl z)=>oA z p0
 | .inr (.inr (.inl z))=>lW z p0
 | .inr (.inr (.inr (.inl z)))=>sN z p0
 | .inr (.inr (.inr (.inr _)))=>none
def rD(a0:mP)(a1 a2:eE):Option ((List uY)×fP):=
 (nZ a1 a2).bind fun D=>
  bif (Option.isSome D) then
   some (([]:(List uY)),D)
  else
   lp (β:=Unit) (fun (u:Int×Int)=>
    bif (cm .lss u.2 (a0.length:Int)) then
     (Sw.idx a0 u.2).bind fun A=>
      (bif (cm .leq A.1 u.1) then
       some true
      else
       some (cm .geq A.1 (a1.length:Int))).bind fun G=>
       bif G then
        some (.done (.ret (([]:(List uY)),(some 1))))
       else
        some (.next (A.1,(ar .add .i64 u.2 1)))
    else
     some (.done (.WT ()))
    ) ((-1:Int),0) fun (_:Unit)=>
   (wD a1).bind fun z=>
    bif (Option.isSome z.2) then
     some (([]:(List uY)),z.2)
    else
     lp (β:=(List uY)) (fun (h:Int×(List uY))=>
      bif (cm .lss h.1 (a0.length:Int)) then
       jp (fun (H:(List uY))=>
        some (.next ((ar .add .i64 h.1 1),H))
        ) fun E=>
       (Sw.idx a0 h.1).bind fun B=>
        (Sw.idx a1 B.1).bind fun I=>
         bif (decide (I=B.2)) then
          E h.2
         else
          lp (β:=(List uY)) (fun (C:Int)=>
           bif (cm .lss C (([(.inl ():lQ),(.inr (.inl z.1):lQ),(.inr (.inr (.inl a2)):lQ),(.inr (.inr (.inr (.inl ()))):lQ)]:(List lQ)).length:Int)) then
            (Sw.idx ([(.inl ():lQ),(.inr (.inl z.1):lQ),(.inr (.inr (.inl a2)):lQ),(.inr (.inr (.inr (.inl ()))):lQ)]:(List lQ)) C).bind fun K=>
             (jG K B).bind fun F=>
              bif F.2 then
               (Sw.app h.2 ([F.1]:(List uY))).bind fun L=>
                some (.done (.WT L))
              else
               some (.next (ar .add .i64 C 1))
           else
            some (.done (.WT h.2))
           ) 0 fun (M:(List uY))=>
          E M
      else
       some (.done (.WT h.2))
      ) (0,([]:(List uY))) fun (N:(List uY))=>
     some (N,(none:Option Int))
def rE(a0:(Int×mP))(a1:eE)(a2:Int):Option ((Int×cW×eE)×Bool):=
 (rD a0.2 a1 ([]:eE)).bind fun z=>
  bif (Option.isSome z.2) then
   some ((0,([]:cW),([]:eE)),false)
  else
   lp (β:=cW×eE) (fun (h:Int×cW×eE)=>
    bif (cm .lss h.1 (z.1.length:Int)) then
     (Sw.idx z.1 h.1).bind fun u=>
      (Sw.app h.2.1 ([(ar .or .i64 (ar .or .i64 (sh .shl .i64 u.1 8) (sh .shl .i64 u.2.1 6)) u.2.2.1)]:cW)).bind fun B=>
       bif (cm .eql u.2.1 3) then
        (Sw.app h.2.2 ([u.2.2.2]:eE)).bind fun C=>
         some (.next ((ar .add .i64 h.1 1),B,C))
       else
        some (.next ((ar .add .i64 h.1 1),B,h.2.2))
    else
     some (.done (.WT (h.2.1,h.2.2)))
    ) (0,([a2,a0.1]:cW),([]:eE)) fun (A:cW×eE)=>
   some ((4,A.1,A.2),(cm .leq (A.1.length:Int) 9))
def dQ(b0 b1 b2 b3:Int)(b4:eE)(b5:pC)(b6:sI)(b7:Int)(b8:pL)(b9 XG:Int)(XF:cW)(XN XB XK XE:Int)(XJ:qS)(WZ:mJ)(XV:Int)(XU:dZ)(XT:Int)(XS:dZ):Option ((Int×cW×eE)):=
 (nI b5 b1 b9).bind fun h=>
  (bif (Option.isNone h.2.2) then
   some h.2.1
  else
   some false).bind fun A=>
   jp (fun (_:Unit)=>
    some (5,([b2]:cW),((fQ b6 b2).getD ([]:eE)))
    ) fun u=>
   bif A then
    bif (fQ b6 b9).isSome then
     (rE h.1 ((fQ b6 b9).getD ([]:eE)) b9).bind fun z=>
      bif z.2 then
       some z.1
      else
       u ()
    else
     u ()
   else
    u ()
def pW(a0:Int):Option (Bool):=
 (bif (cm .lss a0 0) then
  some true
 else
  some (cm .gtr a0 2147483647)).bind fun h=>
  some h
def eH(a0:cW):Option (Int):=
 lp (β:=Unit) (fun (h:Int)=>
  bif (cm .lss h (a0.length:Int)) then
   (Sw.idx a0 h).bind fun u=>
    (pW u).bind fun z=>
     bif z then
      some (.done (.ret h))
     else
      some (.next (ar .add .i64 h 1))
  else
   some (.done (.WT ()))
  ) 0 fun (_:Unit)=>
 some (-1:Int)
def dB(a0:cW):Option (Bool):=
 (eH a0).bind fun h=>
  some (cm .geq h 0)
def qG(a0:cW):Option (Bool):=
 (dB a0).bind fun h=>
  some (!h)
def uA(a0:(Int×cW×eE)):Option (fP):=
 (qE a0).bind fun h=>
  bif (Option.isSome h) then
   some h
  else
   bif (cm .gtr (a0.2.1.length:Int) 9) then
    some (some 2)
   else
    some (none:Option Int)
def pM(a0:pL):Option (fP):=
 (qG ([a0.1,a0.2.1]:cW)).bind fun z=>
  bif (!z) then
   some (some 1)
  else
   bif (cm .gtr (a0.2.2.length:Int) 64) then
    some (some 2)
   else
    lp (β:=Unit) (fun (h:Int)=>
     bif (cm .lss h (a0.2.2.length:Int)) then
      (Sw.idx a0.2.2 h).bind fun A=>
       (uA A).bind fun u=>
        bif (Option.isSome u) then
         some (.done (.ret u))
        else
         some (.next (ar .add .i64 h 1))
     else
      some (.done (.WT ()))
     ) 0 fun (_:Unit)=>
    some (none:Option Int)
def rF(a0:(Bool×cW)):Option (cW):=
 bif a0.1 then
  some ([]:cW)
 else
  (Sw.app ([]:cW) a0.2).bind fun h=>
   some h
def lF(a0:cW):Option cW:=Sw.app [] a0
def mX(a0:(Int×cW×eE)):Option ((Int×cW×eE)):=
 (lF a0.2.1).bind fun h=>
  (aP a0.2.2).bind fun u=>
   some (a0.1,h,u)
def rZ(a0:wY):Option (wY):=
 lp (β:=wY) (fun (h:Int×wY)=>
  bif (cm .lss h.1 (a0.length:Int)) then
   (Sw.idx a0 h.1).bind fun u=>
    (mX u).bind fun z=>
     (Sw.app h.2 ([z]:wY)).bind fun A=>
      some (.next ((ar .add .i64 h.1 1),A))
  else
   some (.done (.WT h.2))
  ) (0,([]:wY)) fun (B:wY)=>
 some B
def uN(a0:pL)(a1:(Int×cW×eE)):Option (pL×fP):=
 (pM a0).bind fun h=>
  bif (Option.isSome h) then
   some ((0,0,([]:wY)),h)
  else
   (uA a1).bind fun u=>
    bif (Option.isSome u) then
     some ((0,0,([]:wY)),u)
    else
     (bif (cm .eql (a0.2.2.length:Int) 64) then
      some true
     else
      some (cm .geq (ar .add .i64 a0.2.1 (a0.2.2.length:Int)) 2147483647)).bind fun z=>
      bif z then
       some ((0,0,([]:wY)),(some 2))
      else
       (rZ a0.2.2).bind fun A=>
        (mX a1).bind fun B=>
         (Sw.app A ([B]:wY)).bind fun C=>
          some ((a0.1,a0.2.1,C),(none:Option Int))
def pG(a0:pL):Option ((List cW)×fP):=
 (pM a0).bind fun A=>
  bif (Option.isSome A) then
   some (([]:(List cW)),A)
  else
   (Sw.sub a0.2.2 0 (min (a0.2.2.length:Int) 4)).bind fun B=>
    lp (β:=(List cW)) (fun (h:Int×(List cW))=>
     bif (cm .lss h.1 (B.length:Int)) then
      (Sw.idx B h.1).bind fun u=>
       bif (cm .gtr (ar .add .i64 a0.2.1 h.1) 2147483647) then
        some (.done (.ret (([]:(List cW)),(some 1))))
       else
        (Sw.app ([a0.1,(ar .add .i64 a0.2.1 h.1),u.1]:cW) u.2.1).bind fun C=>
         (mW (1,C,u.2.2)).bind fun z=>
          bif (Option.isSome z.2) then
           some (.done (.ret (([]:(List cW)),z.2)))
          else
           (Sw.app h.2 ([z.1]:(List cW))).bind fun D=>
            some (.next ((ar .add .i64 h.1 1),D))
     else
      some (.done (.WT h.2))
     ) (0,([]:(List cW))) fun (E:(List cW))=>
    some (E,(none:Option Int))
def dE(b0 b1 b2 b3:Int)(b4:eE)(b5:pC)(b6:sI)(b7:Int)(b8:pL)(b9 XG:Int)(XF:cW)(XN XB XK XE:Int)(XJ:qS)(WZ:mJ)(XV:Int)(XU:dZ)(XT:Int)(XS:dZ):Option (fP×pL×Int×cW×mJ):=
 (iV true (2,([b3]:cW),([]:eE)) b0 b1 b2 b3 b4 b5 b6 b7 b8 b9 XG XF XN XB XK XE XJ WZ XV XU XT XS).bind fun u=>
  (bif (Option.isSome u.1) then
   some true
  else
   some (cm .lss b7 0)).bind fun E=>
   bif E then
    some (u.1,b8,b9,XF,u.2)
   else
    (bif (cm .lss b9 b2) then
     some (cm .eql (b8.2.2.length:Int) 0)
    else
     some false).bind fun F=>
     jp (fun (h:pL×Int×cW)=>
      (pG h.1).bind fun A=>
       lp (β:=mJ) (fun (z:Int×mJ)=>
        bif (cm .lss z.1 (A.1.length:Int)) then
         (Sw.idx A.1 z.1).bind fun C=>
          (HR C).bind fun _=>
           (eM true (false,C) b0 b1 b2 b3 b4 b5 b6 b7 h.1 h.2.1 XG h.2.2 XN XB XK XE XJ z.2 XV XU XT XS).bind fun G=>
            some (.next ((ar .add .i64 z.1 1),G))
        else
         some (.done (.WT z.2))
        ) (0,u.2) fun (H:mJ)=>
       some (A.2,h.1,h.2.1,h.2.2,H)
      ) fun D=>
     bif F then
      (dQ b0 b1 b2 b3 b4 b5 b6 b7 b8 b9 XG XF XN XB XK XE XJ u.2 XV XU XT XS).bind fun I=>
       (uN b8 I).bind fun B=>
        bif (Option.isSome B.2) then
         some (B.2,b8,b9,XF,u.2)
        else
         (Sw.app XF ([b2]:cW)).bind fun K=>
          D (B.1,b2,K)
     else
      D (b8,b9,XF)
def nT(a1:uY)(b0 b1 b2 b3:Int)(b4:eE)(b5:pC)(b6:sI)(b7:Int)(b8:pL)(b9 XG:Int)(XF:cW)(XN XB XK XE:Int)(XJ:qS)(WZ:mJ)(XV:Int)(XU:dZ)(XT:Int)(XS:dZ):Option (aQ×fP×Int×Int×Int×Int×eE×pC×sI×Int×pL×Int×Int×cW×Int×Int×Int×Int×qS×mJ×Int×dZ×Int×dZ):=
 (dE b0 b1 b2 b3 b4 b5 b6 b7 b8 b9 XG XF XN XB XK XE XJ WZ XV XU XT XS).bind fun h=>
  some (aR,h.1,b0,b1,b2,b3,b4,b5,b6,b7,h.2.1,h.2.2.1,XG,h.2.2.2.1,XN,XB,XK,XE,XJ,h.2.2.2.2,XV,XU,XT,XS)
def cD(a1 b0 b1 b2 b3:Int)(b4:eE)(b5:pC)(b6:sI)(b7:Int)(b8:pL)(b9 XG:Int)(XF:cW)(XN XB XK XE:Int)(XJ:qS)(WZ:mJ)(XV:Int)(XU:dZ)(XT:Int)(XS:dZ):Option (Int×Bool):=
 bif (cm .eql (WZ.length:Int) 0) then
  some (0,false)
 else
  (nz (WZ.length:Int)).bind fun _=>
   some ((ar .rem .i64 (max a1 (IntKind.wrap .i64 (0 - (ar .add .i64 a1 1)))) (WZ.length:Int)),true)
def hC(a0:(Bool×mJ)):Option (mJ):=
 bif a0.1 then
  some ([]:mJ)
 else
  (Sw.app ([]:mJ) a0.2).bind fun h=>
   some h
def dC(a0:mJ):Option mJ:=Sw.app [] a0
def cH(a0:mJ)(a1 a2:Int):Option mJ:=Sw.del a0 a1 a2
def fC(WG:cW):Option (Int×Bool×cW):=
 bif (cm .eql (WG.length:Int) 0) then
  some (0,false,WG)
 else
  (Sw.idx WG 0).bind fun h=>
   (Sw.sub WG 1 (WG.length:Int)).bind fun u=>
    some (h,true,u)
def gI(WG:cW):Option (Int×Bool×cW):=
 lp (β:=cW) (fun (h:Int×Int×cW)=>
  bif (cm .lss h.2.1 35) then
   (fC h.2.2).bind fun u=>
    bif (!u.2.1) then
     some (.done (.ret (0,false,u.2.2)))
    else
     (nn h.2.1).bind fun _=>
      bif (cm .lss u.1 128) then
       (bif (cm .leq (ar .or .i64 h.1 (sh .shl .i64 (ar .and .u8 u.1 127) h.2.1)) 2147483647) then
        bif (cm .gtr u.1 0) then
         some true
        else
         some (cm .eql h.2.1 0)
       else
        some false).bind fun z=>
        some (.done (.ret ((ar .or .i64 h.1 (sh .shl .i64 (ar .and .u8 u.1 127) h.2.1)),z,u.2.2)))
      else
       some (.next ((ar .or .i64 h.1 (sh .shl .i64 (ar .and .u8 u.1 127) h.2.1)),(ar .add .i64 h.2.1 7),u.2.2))
  else
   some (.done (.WT h.2.2))
  ) (0,0,WG) fun (A:cW)=>
 some (0,false,A)
def jX(a0:cW)(a1:Int):Option ((cW×Int)):=
 jp (fun (_:Unit)=>
  some (a0,a1)
  ) fun h=>
 bif (cm .lss a1 1) then
  none
 else
  h ()
def fF(a0:cW):Option ((Int×cW×eE)×fP):=
 bif (cm .lss (a0.length:Int) 6) then
  some ((0,([]:cW),([]:eE)),(some 3))
 else
  (Sw.sub a0 0 (ar .sub .i64 (a0.length:Int) 4)).bind fun C=>
   (tZ C).bind fun u=>
    (Sw.sub a0 (C.length:Int) (a0.length:Int)).bind fun G=>
     (Sw.w9 4 G).bind fun H=>
      bif (!decide (H=([(IntKind.wrap .u8 (sh .shr .u32 u 24)),(IntKind.wrap .u8 (sh .shr .u32 u 16)),(IntKind.wrap .u8 (sh .shr .u32 u 8)),(IntKind.wrap .u8 u)]:cW))) then
       some ((0,([]:cW),([]:eE)),(some 3))
      else
       (fC C).bind fun D=>
        (fC D.2.2).bind fun E=>
         lp (β:=cW×cW) (fun (h:Int×cW×cW)=>
          bif (cm .lss h.1 (ar .and .u8 D.1 15)) then
           (gI h.2.1).bind fun F=>
            bif (!F.2.1) then
             some (.done (.ret ((0,([]:cW),([]:eE)),(some 3))))
            else
             (Sw.app h.2.2 ([F.1]:cW)).bind fun I=>
              some (.next ((ar .add .u8 h.1 1),F.2.2,I))
          else
           some (.done (.WT (h.2.1,h.2.2)))
          ) (0,E.2.2,([]:cW)) fun (A:cW×cW)=>
         (bif (cm .gtr E.1 32) then
          some true
         else
          bif (cm .gtr (A.2.length:Int) 12) then
           some true
          else
           some (cm .neq (A.1.length:Int) (ar .mul .i64 E.1 8))).bind fun K=>
          bif K then
           some ((0,([]:cW),([]:eE)),(some 3))
          else
           (jX A.1 8).bind fun B=>
            (Sw.small B.1).bind fun _=>
             (Sw.pq B.2).bind fun _=>
              rg (δ:=Empty) (fun (L:cW) (M:eE)=>
               (Sw.w9 8 L).bind fun N=>
                (Sw.app M ([N]:eE)).bind fun O=>
                 some (.next O)
               ) (Sw.chunks (Int.toNat B.2) B.1) ([]:eE) (fun (P:eE)=>
               some (((sh .shr .u8 D.1 4),A.2,P),(none:Option Int))
               ) fun (z:Empty)=>z.elim
def qH(a0:cW):Option (Int):=
 lp (β:=Int) (fun (h:Int×Int)=>
  bif (cm .lss h.2 (a0.length:Int)) then
   (Sw.idx a0 h.2).bind fun u=>
    some (.next ((ar .mul .u64 (ar .xor .u64 h.1 u) 1099511628211),(ar .add .i64 h.2 1)))
  else
   some (.done (.WT h.1))
  ) (14695981039346656037,0) fun (z:Int)=>
 some z
def wE(a0:aQ):Option (Int):=
 (Sw.app ([0]:cW) a0).bind fun h=>
  (qH h).bind fun u=>
   some u
def iL(a0:cW)(a1:Int):Option ((cW×Int)):=
 jp (fun (_:Unit)=>
  some (a0,a1)
  ) fun h=>
 bif (cm .lss a1 1) then
  none
 else
  h ()
def uB(a0:cW):Option (Int):=
 lp (β:=cW) (fun (u:Int×cW)=>
  bif (cm .lss u.1 (a0.length:Int)) then
   (Sw.idx a0 u.1).bind fun z=>
    lp (β:=cW) (fun (h:Int×cW)=>
     bif (cm .geq h.1 0) then
      (nn h.1).bind fun _=>
       (Sw.app h.2 ([(IntKind.wrap .u8 (sh .shr .u64 z h.1))]:cW)).bind fun A=>
        some (.next ((ar .sub .i64 h.1 8),A))
     else
      some (.done (.WT h.2))
     ) (56,u.2) fun (B:cW)=>
    some (.next ((ar .add .i64 u.1 1),B))
  else
   some (.done (.WT u.2))
  ) (0,([1]:cW)) fun (C:cW)=>
 (qH C).bind fun D=>
  some D
def sA(a0:cW):Option (cW):=
 (iL a0 4).bind fun h=>
  (Sw.small h.1).bind fun _=>
   (Sw.pq h.2).bind fun _=>
    rg (δ:=Empty) (fun (u A:cW)=>
     (uB u).bind fun B=>
      (Sw.app A ([B]:cW)).bind fun C=>
       some (.next C)
     ) (Sw.chunks (Int.toNat h.2) h.1) ([]:cW) (fun (D:cW)=>
     some D
     ) fun (z:Empty)=>z.elim
def Ab(a0:eE):Option (((List cW))×fP):=
 (bif (cm .lss (a0.length:Int) 1) then
  some true
 else
  some (cm .gtr (a0.length:Int) 32)).bind fun B=>
  bif B then
   some (([]:(List cW)),(some 1))
  else
   lp (β:=cW) (fun (h:Int×cW)=>
    bif (cm .lss h.1 (a0.length:Int)) then
     (Sw.idx a0 h.1).bind fun C=>
      (wE C).bind fun D=>
       (Sw.app h.2 ([D]:cW)).bind fun E=>
        some (.next ((ar .add .i64 h.1 1),E))
    else
     some (.done (.WT h.2))
    ) (0,([]:cW)) fun (z:cW)=>
   lp (β:=(List cW)) (fun (u:cW×(List cW))=>
    bif (cm .gtr (u.1.length:Int) 1) then
     (sA u.1).bind fun A=>
      (Sw.app u.2 ([A]:(List cW))).bind fun F=>
       some (.next (A,F))
    else
     some (.done (.WT u.2))
    ) (z,([z]:(List cW))) fun (G:(List cW))=>
   some (G,(none:Option Int))
def pX(a0:Int):Option (cW):=
 some ([(IntKind.wrap .i64 (sh .shr .u64 a0 33)),(IntKind.wrap .i64 (ar .and .u64 (sh .shr .u64 a0 2) 2147483647))]:cW)
def jY(a0:eE):Option (cW):=
 (Ab a0).bind fun h=>
  bif (Option.isSome h.2) then
   some ([]:cW)
  else
   (Sw.idx h.1 (ar .sub .i64 (h.1.length:Int) 1)).bind fun u=>
    (Sw.idx u 0).bind fun z=>
     (pX z).bind fun A=>
      some A
def oB(a0:qS)(a1:cW):Option (qS×(Int×cW×eE)×Bool×(Bool×cW)×fP):=
 (qG ([a0.1,a0.2]:cW)).bind fun B=>
  bif (!B) then
   some ((0,0),(0,([]:cW),([]:eE)),false,(true,([]:cW)),(some 1))
  else
   (fF a1).bind fun h=>
    (bif (Option.isSome h.2) then
     some true
    else
     bif (cm .neq h.1.1 1) then
      some true
     else
      bif (cm .lss (h.1.2.1.length:Int) 3) then
       some true
      else
       (Sw.idx h.1.2.1 0).bind fun C=>
        bif (cm .neq C a0.1) then
         some true
        else
         (Sw.idx h.1.2.1 2).bind fun D=>
          some (cm .gtr D 15)).bind fun E=>
     bif E then
      some (a0,(0,([]:cW),([]:eE)),false,(true,([]:cW)),(none:Option Int))
     else
      ((Sw.idx h.1.2.1 1).bind fun F=>
       bif (cm .eql F a0.2) then
        some (cm .lss a0.2 2147483647)
       else
        some false).bind fun G=>
       jp (fun (u:Bool×Int×Int×cW×eE)=>
        (mW (0,([a0.1,u.2.1]:cW),([]:eE))).bind fun z=>
         (HR z.1).bind fun _=>
          some ((a0.1,u.2.1),u.2.2,u.1,(false,z.1),z.2)
        ) fun A=>
       bif G then
        (Sw.idx h.1.2.1 2).bind fun H=>
         (Sw.sub h.1.2.1 3 (h.1.2.1.length:Int)).bind fun I=>
          A (true,(ar .add .i64 a0.2 1),H,I,h.1.2.2)
       else
        A (false,a0.2,0,([]:cW),([]:eE))
def gT(a1:mP)(a2 b0 b1 b2 b3:Int)(b4:eE)(b5:pC)(b6:sI)(b7:Int)(b8:pL)(b9 XG:Int)(XF:cW)(XN XB XK XE:Int)(XJ:qS)(WZ:mJ)(XV:Int)(XU:dZ)(XT:Int)(XS:dZ):Option (fP×Int×Int×dZ):=
 (cZ XT XS a1 a2 XK).bind fun h=>
  bif (Option.isSome h.1) then
   some (h.1,XB,h.2.1,h.2.2)
  else
   some ((none:Option Int),a2,h.2.1,h.2.2)
def oC(a0:(Int×cW×eE)):Option ((List uY)×Bool):=
 (Sw.sub a0.2.1 2 (a0.2.1.length:Int)).bind fun z=>
  lp (β:=eE×(List uY)) (fun (h:eE×Int×(List uY))=>
   bif (cm .lss h.2.1 (z.length:Int)) then
    (Sw.idx z h.2.1).bind fun u=>
     jp (fun (A:eE×aQ)=>
      (Sw.app h.2.2 ([((sh .shr .i64 u 8),(ar .and .i64 (sh .shr .i64 u 6) 3),(ar .and .i64 u 63),A.2)]:(List uY))).bind fun D=>
       some (.next (A.1,(ar .add .i64 h.2.1 1),D))
      ) fun B=>
     bif (cm .eql (ar .and .i64 (sh .shr .i64 u 6) 3) 3) then
      bif (cm .eql (h.1.length:Int) 0) then
       some (.done (.ret (([]:(List uY)),false)))
      else
       (Sw.idx h.1 0).bind fun E=>
        (Sw.sub h.1 1 (h.1.length:Int)).bind fun F=>
         B (F,E)
     else
      B (h.1,aR)
   else
    some (.done (.WT (h.1,h.2.2)))
   ) (a0.2.2,0,([]:(List uY))) fun (C:eE×(List uY))=>
  some (C.2,(cm .eql (C.1.length:Int) 0))
def tN(a0:eE)(a1:Int):Option (aQ×Bool):=
 (bif (cm .lss a1 0) then
  some true
 else
  some (cm .geq a1 (a0.length:Int))).bind fun h=>
  bif h then
   some (aR,false)
  else
   (Sw.idx a0 a1).bind fun u=>
    some (u,true)
def pN(a0:(List uY))(a1 a2:eE):Option (mP×cW×fP):=
 (nZ a1 a2).bind fun B=>
  bif (Option.isSome B) then
   some (([]:mP),([]:cW),B)
  else
   lp (β:=Unit) (fun (A:Int×Int)=>
    bif (cm .lss A.2 (a0.length:Int)) then
     (Sw.idx a0 A.2).bind fun z=>
      (bif (cm .leq z.1 A.1) then
       some true
      else
       bif (cm .geq z.1 (a1.length:Int)) then
        some true
       else
        bif (cm .lss z.2.1 0) then
         some true
        else
         some (cm .gtr z.2.1 3)).bind fun F=>
       bif F then
        some (.done (.ret (([]:mP),([]:cW),(some 1))))
       else
        some (.next (z.1,(ar .add .i64 A.2 1)))
    else
     some (.done (.WT ()))
    ) ((-1:Int),0) fun (_:Unit)=>
   lp (β:=mP×cW) (fun (h:Int×mP×cW)=>
    bif (cm .lss h.1 (a0.length:Int)) then
     (Sw.idx a0 h.1).bind fun u=>
      bif (cm .eql u.2.1 1) then
       (tN a1 u.2.2.1).bind fun C=>
        bif C.2 then
         (Sw.app h.2.1 ([(u.1,C.1)]:mP)).bind fun G=>
          some (.next ((ar .add .i64 h.1 1),G,h.2.2))
        else
         (Sw.app h.2.2 ([u.1]:cW)).bind fun H=>
          some (.next ((ar .add .i64 h.1 1),h.2.1,H))
      else
       bif (cm .eql u.2.1 2) then
        (tN a2 u.2.2.1).bind fun D=>
         bif D.2 then
          (Sw.app h.2.1 ([(u.1,D.1)]:mP)).bind fun I=>
           some (.next ((ar .add .i64 h.1 1),I,h.2.2))
         else
          (Sw.app h.2.2 ([u.1]:cW)).bind fun K=>
           some (.next ((ar .add .i64 h.1 1),h.2.1,K))
       else
        bif (cm .eql u.2.1 3) then
         (Sw.app h.2.1 ([(u.1,u.2.2.2)]:mP)).bind fun L=>
          some (.next ((ar .add .i64 h.1 1),L,h.2.2))
        else
         (Sw.app h.2.1 ([(u.1,aR)]:mP)).bind fun M=>
          some (.next ((ar .add .i64 h.1 1),M,h.2.2))
    else
     some (.done (.WT (h.2.1,h.2.2)))
    ) (0,([]:mP),([]:cW)) fun (E:mP×cW)=>
   some (E.1,E.2,(none:Option Int))
def fG(a1:(Int×cW×eE))(b0 b1 b2 b3:Int)(b4:eE)(b5:pC)(b6:sI)(b7:Int)(b8:pL)(b9 XG:Int)(XF:cW)(XN XB XK XE:Int)(XJ:qS)(WZ:mJ)(XV:Int)(XU:dZ)(XT:Int)(XS:dZ):Option (fP×Int×Int×dZ):=
 (bif (cm .eql a1.1 5) then
  bif (cm .eql (a1.2.1.length:Int) 1) then
   bif (cm .eql (a1.2.2.length:Int) XN) then
    (Sw.idx a1.2.1 0).bind fun D=>
     some (cm .gtr D XB)
   else
    some false
  else
   some false
 else
  some false).bind fun E=>
  bif E then
   lp (β:=mP) (fun (h:Int×mP)=>
    bif (cm .lss h.1 (a1.2.2.length:Int)) then
     (Sw.idx a1.2.2 h.1).bind fun F=>
      (Sw.app h.2 ([(h.1,F)]:mP)).bind fun G=>
       some (.next ((ar .add .i64 h.1 1),G))
    else
     some (.done (.WT h.2))
    ) (0,([]:mP)) fun (H:mP)=>
   (Sw.idx a1.2.1 0).bind fun I=>
    (gT H I b0 b1 b2 b3 b4 b5 b6 b7 b8 b9 XG XF XN XB XK XE XJ WZ XV XU XT XS).bind fun u=>
     some (u.1,u.2.1,u.2.2.1,u.2.2.2)
  else
   (bif (cm .eql a1.1 4) then
    bif (cm .geq (a1.2.1.length:Int) 2) then
     (Sw.idx a1.2.1 0).bind fun K=>
      bif (cm .eql K XB) then
       (Sw.idx a1.2.1 1).bind fun L=>
        some (cm .gtr L XB)
      else
       some false
    else
     some false
   else
    some false).bind fun M=>
    bif M then
     (gD (XT,XS)).bind fun A=>
      bif (Option.isSome A.2) then
       some (A.2,XB,XT,XS)
      else
       (oC a1).bind fun C=>
        (pN C.1 A.1 ([]:eE)).bind fun B=>
         (bif (!C.2) then
          some true
         else
          bif (Option.isSome B.2.2) then
           some true
          else
           some (cm .gtr (B.2.1.length:Int) 0)).bind fun N=>
          bif N then
           some ((none:Option Int),XB,XT,XS)
          else
           (Sw.idx a1.2.1 1).bind fun O=>
            (gT B.1 O b0 b1 b2 b3 b4 b5 b6 b7 b8 b9 XG XF XN XB XK XE XJ WZ XV XU XT XS).bind fun z=>
             some (z.1,z.2.1,z.2.2.1,z.2.2.2)
    else
     some ((none:Option Int),XB,XT,XS)
def cI(a1:cW)(b0 b1 b2 b3:Int)(b4:eE)(b5:pC)(b6:sI)(b7:Int)(b8:pL)(b9 XG:Int)(XF:cW)(XN XB XK XE:Int)(XJ:qS)(WZ:mJ)(XV:Int)(XU:dZ)(XT:Int)(XS:dZ):Option (fP×Int×Int×qS×mJ×Int×dZ):=
 (fF a1).bind fun A=>
  (bif (Option.isNone A.2) then
   bif (cm .eql A.1.1 2) then
    some (cm .eql (A.1.2.1.length:Int) 1)
   else
    some false
  else
   some false).bind fun G=>
   bif G then
    (Sw.idx A.1.2.1 0).bind fun H=>
     jp (fun (u:Int×qS)=>
      (gD (XT,XS)).bind fun C=>
       (bif (Option.isSome C.2) then
        some true
       else
        (Sw.idx A.1.2.1 0).bind fun I=>
         some (cm .lss I u.1)).bind fun K=>
        bif K then
         some (C.2,XB,u.1,u.2,WZ,XT,XS)
        else
         (jY C.1).bind fun L=>
          (Sw.app ([u.1,XK,XB]:cW) L).bind fun M=>
           (iV false (3,M,([]:eE)) b0 b1 b2 b3 b4 b5 b6 b7 b8 b9 XG XF XN XB XK u.1 u.2 WZ XV XU XT XS).bind fun D=>
            some (D.1,XB,u.1,u.2,D.2,XT,XS)
      ) fun E=>
     bif (cm .gtr H XE) then
      (Sw.idx A.1.2.1 0).bind fun N=>
       (Sw.idx A.1.2.1 0).bind fun O=>
        E (N,((ar .or .i64 (sh .shl .i64 O 12) XK),0))
     else
      E (XE,XJ)
   else
    bif (cm .lss XE 0) then
     some ((none:Option Int),XB,XE,XJ,WZ,XT,XS)
    else
     (oB XJ a1).bind fun h=>
      bif (Option.isSome h.2.2.2.2) then
       some (h.2.2.2.2,XB,XE,XJ,WZ,XT,XS)
      else
       jp (fun (B:Int×Int×dZ)=>
        (eM false h.2.2.2.1 b0 b1 b2 b3 b4 b5 b6 b7 b8 b9 XG XF XN B.1 XK XE h.1 WZ XV XU B.2.1 B.2.2).bind fun P=>
         some ((none:Option Int),B.1,XE,h.1,P,B.2.1,B.2.2)
        ) fun F=>
       bif h.2.2.1 then
        (fG h.2.1 b0 b1 b2 b3 b4 b5 b6 b7 b8 b9 XG XF XN XB XK XE h.1 WZ XV XU XT XS).bind fun z=>
         bif (Option.isSome z.1) then
          some (z.1,z.2.1,XE,h.1,WZ,z.2.2.1,z.2.2.2)
         else
          F (z.2.1,z.2.2.1,z.2.2.2)
       else
        F (XB,XT,XS)
def jH(a0 a1:cW):Option (Bool):=
 bif (cm .neq (a0.length:Int) (a1.length:Int)) then
  some false
 else
  lp (β:=Unit) (fun (h:Int)=>
   bif (cm .lss h (a0.length:Int)) then
    (Sw.idx a0 h).bind fun u=>
     (Sw.idx a1 h).bind fun z=>
      bif (cm .neq u z) then
       some (.done (.ret false))
      else
       some (.next (ar .add .i64 h 1))
   else
    some (.done (.WT ()))
   ) 0 fun (_:Unit)=>
  some true
def sB(a0:pL)(a1:cW):Option (pL×fP):=
 (pM a0).bind fun A=>
  bif (Option.isSome A) then
   some ((0,0,([]:wY)),A)
  else
   (rZ a0.2.2).bind fun u=>
    (fF a1).bind fun h=>
     (bif (Option.isSome h.2) then
      some true
     else
      bif (cm .neq h.1.1 0) then
       some true
      else
       bif (cm .neq (h.1.2.1.length:Int) 2) then
        some true
       else
        bif (cm .gtr (h.1.2.2.length:Int) 0) then
         some true
        else
         (Sw.idx h.1.2.1 0).bind fun D=>
          some (cm .neq D a0.1)).bind fun E=>
      bif E then
       some ((a0.1,a0.2.1,u),(none:Option Int))
      else
       (Sw.idx h.1.2.1 1).bind fun z=>
        (bif (cm .gtr (ar .sub .i64 z a0.2.1) 0) then
         some (cm .leq (ar .sub .i64 z a0.2.1) (min (u.length:Int) 4))
        else
         some false).bind fun F=>
         jp (fun (B:Int×wY)=>
          some ((a0.1,B.1,B.2),(none:Option Int))
          ) fun C=>
         bif F then
          (Sw.idx h.1.2.1 1).bind fun G=>
           (Sw.sub u (ar .sub .i64 z a0.2.1) (u.length:Int)).bind fun H=>
            C (G,H)
         else
          C (a0.2.1,u)
def oD(a0:(Int×mP))(a1:Int):Option (Bool):=
 some (cm .leq a0.1 a1)
def cC(a0:sL)(XW:Int):Option (Int):=
 lp (β:=Unit) (fun (h:Int)=>
  bif (cm .lss h (a0.length:Int)) then
   (Sw.idx a0 h).bind fun u=>
    (oD u XW).bind fun z=>
     bif z then
      some (.done (.ret h))
     else
      some (.next (ar .add .i64 h 1))
  else
   some (.done (.WT ()))
  ) 0 fun (_:Unit)=>
 some (-1:Int)
def bX(a0:sL)(XW:Int):Option (sL):=
 (cC a0 XW).bind fun z=>
  bif (cm .eql z (-1:Int)) then
   some a0
  else
   lp (β:=Int×sL) (fun (h:Int×Int×sL)=>
    bif (cm .lss h.2.1 (h.2.2.length:Int)) then
     (Sw.idx h.2.2 h.2.1).bind fun A=>
      (oD A XW).bind fun B=>
       bif (!B) then
        (Sw.idx h.2.2 h.1).bind fun _=>
         some (.next ((ar .add .i64 h.1 1),(ar .add .i64 h.2.1 1),(List.set h.2.2 (Int.toNat h.1) A)))
       else
        some (.next (h.1,(ar .add .i64 h.2.1 1),h.2.2))
    else
     some (.done (.WT (h.1,h.2.2)))
    ) (z,(ar .add .i64 z 1),a0) fun (u:Int×sL)=>
   (Sw.sub u.2 u.1 (u.2.length:Int)).bind fun _=>
    (Sw.sub (List.take (Int.toNat u.1) u.2++List.replicate (u.2.length - Int.toNat u.1) (0,([]:mP))) 0 u.1).bind fun C=>
     some C
def pO(a0:pC)(a1 a2:Int):Option (pC×fP):=
 (lI a0 a1).bind fun u=>
  bif (Option.isSome u) then
   some ((0,([]:mP),([]:sL),false),u)
  else
   (bif (cm .lss a2 0) then
    some true
   else
    some (cm .gtr a2 a0.1)).bind fun A=>
    bif A then
     some ((0,([]:mP),([]:sL),false),(some 1))
    else
     (nH a0).bind fun h=>
      (bX h.2.2.1 a2).bind fun B=>
       jp (fun (C:Bool)=>
        some ((h.1,h.2.1,B,C),(none:Option Int))
        ) fun z=>
       bif (cm .eql a2 h.1) then
        z false
       else
        z h.2.2.2
def cP(a1:cW)(b0 b1 b2 b3:Int)(b4:eE)(b5:pC)(b6:sI)(b7:Int)(b8:pL)(b9 XG:Int)(XF:cW)(XN XB XK XE:Int)(XJ:qS)(WZ:mJ)(XV:Int)(XU:dZ)(XT:Int)(XS:dZ):Option (fP×pC×Int×pL×Int×Int×cW):=
 (fF a1).bind fun h=>
  (bif (Option.isNone h.2) then
   bif (cm .eql h.1.1 3) then
    bif (cm .eql (h.1.2.1.length:Int) 5) then
     (Sw.idx h.1.2.1 0).bind fun K=>
      some (cm .eql K b3)
    else
     some false
   else
    some false
  else
   some false).bind fun L=>
   bif L then
    (Sw.idx h.1.2.1 0).bind fun B=>
     (Sw.idx h.1.2.1 1).bind fun C=>
      jp (fun (u:Int×pL×Int×Int×cW)=>
       some ((none:Option Int),b5,u.1,u.2.1,u.2.2.1,u.2.2.2.1,u.2.2.2.2)
       ) fun E=>
      bif (cm .gtr (ar .or .i64 (sh .shl .i64 B 12) C) b7) then
       (Sw.idx h.1.2.1 2).bind fun D=>
        (bif (!((fQ b6 D).isSome)) then
         some true
        else
         (jY ((fQ b6 D).getD ([]:eE))).bind fun M=>
          (Sw.sub h.1.2.1 3 (h.1.2.1.length:Int)).bind fun N=>
           (jH M N).bind fun O=>
            some (!O)).bind fun P=>
         jp (fun (Q:Int)=>
          (Sw.idx h.1.2.1 2).bind fun R=>
           E ((ar .or .i64 (sh .shl .i64 B 12) C),((ar .or .i64 (sh .shl .i64 B 12) C),0,([]:wY)),Q,(max XG R),([]:cW))
          ) fun F=>
         bif P then
          F (-1:Int)
         else
          F D
      else
       E (b7,b8,b9,XG,XF)
   else
    bif (cm .lss b7 0) then
     some ((none:Option Int),b5,b7,b8,b9,XG,XF)
    else
     (sB b8 a1).bind fun z=>
      bif (Option.isSome z.2) then
       some (z.2,b5,b7,b8,b9,XG,XF)
      else
       (Sw.sub XF 0 (ar .sub .i64 (b8.2.2.length:Int) (z.1.2.2.length:Int))).bind fun G=>
        lp (β:=Int) (fun (A:Int×Int)=>
         bif (cm .lss A.1 (G.length:Int)) then
          (Sw.idx G A.1).bind fun S=>
           some (.next ((ar .add .i64 A.1 1),(max A.2 S)))
         else
          some (.done (.WT A.2))
         ) (0,XG) fun (H:Int)=>
        (Sw.sub XF (ar .sub .i64 (b8.2.2.length:Int) (z.1.2.2.length:Int)) (XF.length:Int)).bind fun T=>
         (pO b5 b1 (min H b5.1)).bind fun I=>
          some (I.2,I.1,b7,z.1,b9,H,T)
def dX(a1:(Bool×Bool×cW))(b0 b1 b2 b3:Int)(b4:eE)(b5:pC)(b6:sI)(b7:Int)(b8:pL)(b9 XG:Int)(XF:cW)(XN XB XK XE:Int)(XJ:qS)(WZ:mJ)(XV:Int)(XU:dZ)(XT:Int)(XS:dZ):Option (fP×pC×Int×pL×Int×Int×cW×Int×Int×qS×mJ×Int×dZ):=
 bif a1.1 then
  (cI a1.2.2 b0 b1 b2 b3 b4 b5 b6 b7 b8 b9 XG XF XN XB XK XE XJ WZ XV XU XT XS).bind fun h=>
   some (h.1,b5,b7,b8,b9,XG,XF,h.2.1,h.2.2.1,h.2.2.2.1,h.2.2.2.2.1,h.2.2.2.2.2.1,h.2.2.2.2.2.2)
 else
  (cP a1.2.2 b0 b1 b2 b3 b4 b5 b6 b7 b8 b9 XG XF XN XB XK XE XJ WZ XV XU XT XS).bind fun u=>
   some (u.1,u.2.1,u.2.2.1,u.2.2.2.1,u.2.2.2.2.1,u.2.2.2.2.2.1,u.2.2.2.2.2.2,XB,XE,XJ,WZ,XT,XS)
def cT(a1 b0 b1 b2 b3:Int)(b4:eE)(b5:pC)(b6:sI)(b7:Int)(b8:pL)(b9 XG:Int)(XF:cW)(XN XB XK XE:Int)(XJ:qS)(WZ:mJ)(XV:Int)(XU:dZ)(XT:Int)(XS:dZ):Option (fP×pC×Int×pL×Int×Int×cW×Int×Int×qS×mJ×Int×dZ):=
 (cD a1 b0 b1 b2 b3 b4 b5 b6 b7 b8 b9 XG XF XN XB XK XE XJ WZ XV XU XT XS).bind fun u=>
  bif (!u.2) then
   some ((none:Option Int),b5,b7,b8,b9,XG,XF,XB,XE,XJ,WZ,XT,XS)
  else
   (Sw.idx WZ u.1).bind fun z=>
    (dC WZ).bind fun A=>
     (cH A u.1 (ar .add .i64 u.1 1)).bind fun B=>
      (dX z b0 b1 b2 b3 b4 b5 b6 b7 b8 b9 XG XF XN XB XK XE XJ B XV XU XT XS).bind fun h=>
       some (h.1,h.2.1,h.2.2.1,h.2.2.2.1,h.2.2.2.2.1,h.2.2.2.2.2.1,h.2.2.2.2.2.2.1,h.2.2.2.2.2.2.2.1,h.2.2.2.2.2.2.2.2.1,h.2.2.2.2.2.2.2.2.2.1,h.2.2.2.2.2.2.2.2.2.2.1,h.2.2.2.2.2.2.2.2.2.2.2.1,h.2.2.2.2.2.2.2.2.2.2.2.2)
def nU(a1:uY)(b0 b1 b2 b3:Int)(b4:eE)(b5:pC)(b6:sI)(b7:Int)(b8:pL)(b9 XG:Int)(XF:cW)(XN XB XK XE:Int)(XJ:qS)(WZ:mJ)(XV:Int)(XU:dZ)(XT:Int)(XS:dZ):Option (aQ×fP×Int×Int×Int×Int×eE×pC×sI×Int×pL×Int×Int×cW×Int×Int×Int×Int×qS×mJ×Int×dZ×Int×dZ):=
 (cT a1.2.1 b0 b1 b2 b3 b4 b5 b6 b7 b8 b9 XG XF XN XB XK XE XJ WZ XV XU XT XS).bind fun h=>
  some (aR,h.1,b0,b1,b2,b3,b4,h.2.1,b6,h.2.2.1,h.2.2.2.1,h.2.2.2.2.1,h.2.2.2.2.2.1,h.2.2.2.2.2.2.1,XN,h.2.2.2.2.2.2.2.1,XK,h.2.2.2.2.2.2.2.2.1,h.2.2.2.2.2.2.2.2.2.1,h.2.2.2.2.2.2.2.2.2.2.1,XV,XU,h.2.2.2.2.2.2.2.2.2.2.2.1,h.2.2.2.2.2.2.2.2.2.2.2.2)
def gB(a1 b0 b1 b2 b3:Int)(b4:eE)(b5:pC)(b6:sI)(b7:Int)(b8:pL)(b9 XG:Int)(XF:cW)(XN XB XK XE:Int)(XJ:qS)(WZ:mJ)(XV:Int)(XU:dZ)(XT:Int)(XS:dZ):Option (fP×mJ):=
 (cD a1 b0 b1 b2 b3 b4 b5 b6 b7 b8 b9 XG XF XN XB XK XE XJ WZ XV XU XT XS).bind fun h=>
  jp (fun (z:mJ)=>
   some ((none:Option Int),z)
   ) fun u=>
  bif h.2 then
   (dC WZ).bind fun A=>
    (cH A h.1 (ar .add .i64 h.1 1)).bind fun B=>
     u B
  else
   u WZ
def nV(a1:uY)(b0 b1 b2 b3:Int)(b4:eE)(b5:pC)(b6:sI)(b7:Int)(b8:pL)(b9 XG:Int)(XF:cW)(XN XB XK XE:Int)(XJ:qS)(WZ:mJ)(XV:Int)(XU:dZ)(XT:Int)(XS:dZ):Option (aQ×fP×Int×Int×Int×Int×eE×pC×sI×Int×pL×Int×Int×cW×Int×Int×Int×Int×qS×mJ×Int×dZ×Int×dZ):=
 (gB a1.2.1 b0 b1 b2 b3 b4 b5 b6 b7 b8 b9 XG XF XN XB XK XE XJ WZ XV XU XT XS).bind fun h=>
  some (aR,h.1,b0,b1,b2,b3,b4,b5,b6,b7,b8,b9,XG,XF,XN,XB,XK,XE,XJ,h.2,XV,XU,XT,XS)
def eP(a1 b0 b1 b2 b3:Int)(b4:eE)(b5:pC)(b6:sI)(b7:Int)(b8:pL)(b9 XG:Int)(XF:cW)(XN XB XK XE:Int)(XJ:qS)(WZ:mJ)(XV:Int)(XU:dZ)(XT:Int)(XS:dZ):Option (fP×mJ):=
 (cD a1 b0 b1 b2 b3 b4 b5 b6 b7 b8 b9 XG XF XN XB XK XE XJ WZ XV XU XT XS).bind fun h=>
  (bif h.2 then
   some (cm .lss (WZ.length:Int) 64)
  else
   some false).bind fun z=>
   jp (fun (A:mJ)=>
    some ((none:Option Int),A)
    ) fun u=>
   bif z then
    (Sw.idx WZ h.1).bind fun B=>
     (Sw.app WZ ([B]:mJ)).bind fun C=>
      u C
   else
    u WZ
def nW(a1:uY)(b0 b1 b2 b3:Int)(b4:eE)(b5:pC)(b6:sI)(b7:Int)(b8:pL)(b9 XG:Int)(XF:cW)(XN XB XK XE:Int)(XJ:qS)(WZ:mJ)(XV:Int)(XU:dZ)(XT:Int)(XS:dZ):Option (aQ×fP×Int×Int×Int×Int×eE×pC×sI×Int×pL×Int×Int×cW×Int×Int×Int×Int×qS×mJ×Int×dZ×Int×dZ):=
 (eP a1.2.1 b0 b1 b2 b3 b4 b5 b6 b7 b8 b9 XG XF XN XB XK XE XJ WZ XV XU XT XS).bind fun h=>
  some (aR,h.1,b0,b1,b2,b3,b4,b5,b6,b7,b8,b9,XG,XF,XN,XB,XK,XE,XJ,h.2,XV,XU,XT,XS)
def lX(a0:(Int×dZ)):Option (dZ):=
 (aP a0.2.1).bind fun h=>
  (bV a0.2.2.1).bind fun u=>
   some (h,u,a0.2.2.2)
def iB(WG:Int)(WQ:dZ)(a1:Int):Option ((Option (Int×dZ))×fP×Int×dZ):=
 (lX (WG,WQ)).bind fun z=>
  (mV z a1).bind fun h=>
   vB h.1 (
    some ((none:(Option (Int×dZ))),h.2,WG,WQ)
    ) fun u=>
    some ((some (u.1,u.2)),h.2,WG,WQ)
def iW(b0 b1 b2 b3:Int)(b4:eE)(b5:pC)(b6:sI)(b7:Int)(b8:pL)(b9 XG:Int)(XF:cW)(XN XB XK XE:Int)(XJ:qS)(WZ:mJ)(XV:Int)(XU:dZ)(XT:Int)(XS:dZ):Option (fP×Int×Int×Int×dZ):=
 (fZ (XT,XS)).bind fun h=>
  bif (Option.isSome h.2.2) then
   some (h.2.2,b2,b3,XT,XS)
  else
   (cZ XT XS ([]:mP) h.1 (ar .add .i64 h.2.1 1)).bind fun u=>
    some (u.1,h.1,(ar .add .i64 h.2.1 1),u.2.1,u.2.2)
def gE(b0 b1 b2 b3:Int)(b4:eE)(b5:pC)(b6:sI)(b7:Int)(b8:pL)(b9 XG:Int)(XF:cW)(XN XB XK XE:Int)(XJ:qS)(WZ:mJ)(XV:Int)(XU:dZ)(XT:Int)(XS:dZ)(b22:Int)(zz:dZ):Option (fP×Int×Int×Int×eE×pC×sI×Int×pL×Int×Int×cW×Int×dZ):=
 (iW b0 b0 0 0 ([]:eE) (0,([]:mP),([]:sL),false) ([]:List (Int×eE)) (-1:Int) (0,0,([]:wY)) 0 0 ([]:cW) XN XB XK XE XJ WZ XT XS b22 zz).bind fun h=>
  bif (Option.isSome h.1) then
   some (h.1,b0,h.2.1,h.2.2.1,([]:eE),(0,([]:mP),([]:sL),false),([]:List (Int×eE)),(-1:Int),(0,0,([]:wY)),0,0,([]:cW),h.2.2.2.1,h.2.2.2.2)
  else
   (gD h.2.2.2).bind fun u=>
    (eO b0 b0 h.2.1 h.2.2.1 u.1 (h.2.1,([]:mP),([]:sL),true) ([]:List (Int×eE)) (-1:Int) (0,0,([]:wY)) 0 0 ([]:cW) XN XB XK XE XJ WZ h.2.2.2.1 h.2.2.2.2 XT XS).bind fun z=>
     some (u.2,b0,h.2.1,h.2.2.1,u.1,(h.2.1,([]:mP),([]:sL),true),z,(-1:Int),(0,0,([]:wY)),0,0,([]:cW),h.2.2.2.1,h.2.2.2.2)
def kT(a1:uY)(b0 b1 b2 b3:Int)(b4:eE)(b5:pC)(b6:sI)(b7:Int)(b8:pL)(b9 XG:Int)(XF:cW)(XN XB XK XE:Int)(XJ:qS)(WZ:mJ)(XV:Int)(XU:dZ)(XT:Int)(XS:dZ):Option (aQ×fP×Int×Int×Int×Int×eE×pC×sI×Int×pL×Int×Int×cW×Int×Int×Int×Int×qS×mJ×Int×dZ×Int×dZ):=
 (iB XV XU b0).bind fun z=>
  vB z.1 (
   jp (fun (_:Unit)=>
    some (aR,z.2.1,b0,b1,b2,b3,b4,b5,b6,b7,b8,b9,XG,XF,XN,XB,XK,XE,XJ,WZ,z.2.2.1,z.2.2.2,XT,XS)
    ) fun C=>
   bif (Option.isNone z.2.1) then
    none
   else
    C ()
   ) fun A=>
   jp (fun (h:fP×Int×Int×Int×pC×Int×pL×Int×Int×Int×dZ×eE×sI×cW)=>
    some (aR,h.1,b0,h.2.1,h.2.2.1,h.2.2.2.1,h.2.2.2.2.2.2.2.2.2.2.2.1,h.2.2.2.2.1,h.2.2.2.2.2.2.2.2.2.2.2.2.1,h.2.2.2.2.2.1,h.2.2.2.2.2.2.1,h.2.2.2.2.2.2.2.1,h.2.2.2.2.2.2.2.2.1,h.2.2.2.2.2.2.2.2.2.2.2.2.2,XN,XB,XK,XE,XJ,WZ,h.2.2.2.2.2.2.2.2.2.1,h.2.2.2.2.2.2.2.2.2.2.1,XT,XS)
    ) fun B=>
   bif (Option.isNone z.2.1) then
    (gE b0 b1 b2 b3 b4 b5 b6 b7 b8 b9 XG XF XN XB XK XE XJ WZ z.2.2.1 z.2.2.2 XT XS A.1 A.2).bind fun u=>
     B (u.1,u.2.1,u.2.2.1,u.2.2.2.1,u.2.2.2.2.2.1,u.2.2.2.2.2.2.2.1,u.2.2.2.2.2.2.2.2.1,u.2.2.2.2.2.2.2.2.2.1,u.2.2.2.2.2.2.2.2.2.2.1,u.2.2.2.2.2.2.2.2.2.2.2.2.1,u.2.2.2.2.2.2.2.2.2.2.2.2.2,u.2.2.2.2.1,u.2.2.2.2.2.2.1,u.2.2.2.2.2.2.2.2.2.2.2.1)
   else
    B (z.2.1,b1,b2,b3,b5,b7,b8,b9,XG,z.2.2.1,z.2.2.2,b4,b6,XF)
def gF(b0 b1 b2 b3:Int)(b4:eE)(b5:pC)(b6:sI)(b7:Int)(b8:pL)(b9 XG:Int)(XF:cW)(XN XB XK XE:Int)(XJ:qS)(WZ:mJ)(XV:Int)(XU:dZ)(XT:Int)(XS:dZ)(b22:Int)(zz:dZ):Option (fP×Int×Int×Int×Int×qS×Int×dZ):=
 (gH b0 b1 b2 b3 b4 b5 b6 b7 b8 b9 XG XF b0 0 0 (-1:Int) (0,0) WZ XV XU b22 zz).bind fun h=>
  some (h.1,b0,h.2.1,h.2.2.1,(-1:Int),(0,0),h.2.2.2.1,h.2.2.2.2)
def kE(a1:uY)(b0 b1 b2 b3:Int)(b4:eE)(b5:pC)(b6:sI)(b7:Int)(b8:pL)(b9 XG:Int)(XF:cW)(XN XB XK XE:Int)(XJ:qS)(WZ:mJ)(XV:Int)(XU:dZ)(XT:Int)(XS:dZ):Option (aQ×fP×Int×Int×Int×Int×eE×pC×sI×Int×pL×Int×Int×cW×Int×Int×Int×Int×qS×mJ×Int×dZ×Int×dZ):=
 (iB XT XS b0).bind fun h=>
  vB h.1 (
   jp (fun (_:Unit)=>
    some (aR,h.2.1,b0,b1,b2,b3,b4,b5,b6,b7,b8,b9,XG,XF,XN,XB,XK,XE,XJ,WZ,XV,XU,h.2.2.1,h.2.2.2)
    ) fun C=>
   bif (Option.isNone h.2.1) then
    none
   else
    C ()
   ) fun A=>
   jp (fun (u:fP×Int×Int×Int×Int×qS×Int×dZ)=>
    some (aR,u.1,b0,b1,b2,b3,b4,b5,b6,b7,b8,b9,XG,XF,u.2.1,u.2.2.1,u.2.2.2.1,u.2.2.2.2.1,u.2.2.2.2.2.1,WZ,XV,XU,u.2.2.2.2.2.2.1,u.2.2.2.2.2.2.2)
    ) fun B=>
   bif (Option.isNone h.2.1) then
    (gF b0 b1 b2 b3 b4 b5 b6 b7 b8 b9 XG XF XN XB XK XE XJ WZ XV XU h.2.2.1 h.2.2.2 A.1 A.2).bind fun z=>
     B (z.1,z.2.1,z.2.2.1,z.2.2.2.1,z.2.2.2.2.1,z.2.2.2.2.2.1,z.2.2.2.2.2.2.1,z.2.2.2.2.2.2.2)
   else
    B (h.2.1,XN,XB,XK,XE,XJ,h.2.2.1,h.2.2.2)
def pY(a0:(Bool×cW)):Option (cW):=
 bif a0.1 then
  some ([]:cW)
 else
  (Sw.app ([]:cW) a0.2).bind fun h=>
   some h
def nJ(a0:cW):Option cW:=Sw.app [] a0
def eQ(a1:uY)(b0 b1 b2 b3:Int)(b4:eE)(b5:pC)(b6:sI)(b7:Int)(b8:pL)(b9 XG:Int)(XF:cW)(XN XB XK XE:Int)(XJ:qS)(WZ:mJ)(XV:Int)(XU:dZ)(XT:Int)(XS:dZ):Option (fP×mJ):=
 (cD a1.2.1 b0 b1 b2 b3 b4 b5 b6 b7 b8 b9 XG XF XN XB XK XE XJ WZ XV XU XT XS).bind fun u=>
  (bif (!u.2) then
   some true
  else
   (Sw.idx WZ u.1).bind fun z=>
    some z.2.1).bind fun A=>
   bif A then
    some ((none:Option Int),WZ)
   else
    (Sw.idx WZ u.1).bind fun B=>
     (nJ B.2.2).bind fun h=>
      (nz (h.length:Int)).bind fun _=>
       (Sw.idx h (ar .rem .i64 (max a1.2.2.1 (IntKind.wrap .i64 (0 - (ar .add .i64 a1.2.2.1 1)))) (h.length:Int))).bind fun C=>
        (Sw.idx a1.2.2.2 0).bind fun D=>
         (Sw.idx h (ar .rem .i64 (max a1.2.2.1 (IntKind.wrap .i64 (0 - (ar .add .i64 a1.2.2.1 1)))) (h.length:Int))).bind fun _=>
          (Sw.idx WZ u.1).bind fun E=>
           (Sw.idx WZ u.1).bind fun _=>
            some ((none:Option Int),(List.set WZ (Int.toNat u.1) (E.1,true,(List.set h (Int.toNat (ar .rem .i64 (max a1.2.2.1 (IntKind.wrap .i64 (0 - (ar .add .i64 a1.2.2.1 1)))) (h.length:Int))) (ar .xor .u8 C (ar .or .u8 D 1))))))
def mY(a1:uY)(b0 b1 b2 b3:Int)(b4:eE)(b5:pC)(b6:sI)(b7:Int)(b8:pL)(b9 XG:Int)(XF:cW)(XN XB XK XE:Int)(XJ:qS)(WZ:mJ)(XV:Int)(XU:dZ)(XT:Int)(XS:dZ):Option (aQ×fP×Int×Int×Int×Int×eE×pC×sI×Int×pL×Int×Int×cW×Int×Int×Int×Int×qS×mJ×Int×dZ×Int×dZ):=
 (eQ a1 b0 b1 b2 b3 b4 b5 b6 b7 b8 b9 XG XF XN XB XK XE XJ WZ XV XU XT XS).bind fun h=>
  some (aR,h.1,b0,b1,b2,b3,b4,b5,b6,b7,b8,b9,XG,XF,XN,XB,XK,XE,XJ,h.2,XV,XU,XT,XS)
def wM(i:Nat)(a1:uY)(b0 b1 b2 b3:Int)(b4:eE)(b5:pC)(b6:sI)(b7:Int)(b8:pL)(b9 XG:Int)(XF:cW)(XN XB XK XE:Int)(XJ:qS)(WZ:mJ)(XV:Int)(XU:dZ)(XT:Int)(XS:dZ):Option (aQ×fP×Int×Int×Int×Int×eE×pC×sI×Int×pL×Int×Int×cW×Int×Int×Int×Int×qS×mJ×Int×dZ×Int×dZ):=match i with
 | 0=>nP a1 b0 b1 b2 b3 b4 b5 b6 b7 b8 b9 XG XF XN XB XK XE XJ WZ XV XU XT XS
 | 1=>nQ a1 b0 b1 b2 b3 b4 b5 b6 b7 b8 b9 XG XF XN XB XK XE XJ WZ XV XU XT XS
 | 2=>nR a1 b0 b1 b2 b3 b4 b5 b6 b7 b8 b9 XG XF XN XB XK XE XJ WZ XV XU XT XS
 | 3=>nS a1 b0 b1 b2 b3 b4 b5 b6 b7 b8 b9 XG XF XN XB XK XE XJ WZ XV XU XT XS
 | 4=>nT a1 b0 b1 b2 b3 b4 b5 b6 b7 b8 b9 XG XF XN XB XK XE XJ WZ XV XU XT XS
 | 5=>nU a1 b0 b1 b2 b3 b4 b5 b6 b7 b8 b9 XG XF XN XB XK XE XJ WZ XV XU XT XS
 | 6=>nV a1 b0 b1 b2 b3 b4 b5 b6 b7 b8 b9 XG XF XN XB XK XE XJ WZ XV XU XT XS
 | 7=>nW a1 b0 b1 b2 b3 b4 b5 b6 b7 b8 b9 XG XF XN XB XK XE XJ WZ XV XU XT XS
 | 8=>kT a1 b0 b1 b2 b3 b4 b5 b6 b7 b8 b9 XG XF XN XB XK XE XJ WZ XV XU XT XS
 | 9=>kE a1 b0 b1 b2 b3 b4 b5 b6 b7 b8 b9 XG XF XN XB XK XE XJ WZ XV XU XT XS
 | 10=>mY a1 b0 b1 b2 b3 b4 b5 b6 b7 b8 b9 XG XF XN XB XK XE XJ WZ XV XU XT XS
 |_=>none
def dY(a1:(Int×aQ×Int×Int×Int×eE))(b0 b1 b2 b3:Int)(b4:eE)(b5:pC)(b6:sI)(b7:Int)(b8:pL)(b9 XG:Int)(XF:cW)(XN XB XK XE:Int)(XJ:qS)(WZ:mJ)(XV:Int)(XU:dZ)(XT:Int)(XS:dZ):Option ((Int×aQ×Int×Int×Int×eE)×fP):=
 (gD (XT,XS)).bind fun h=>
  some ((a1.1,a1.2.1,b2,XG,XB,h.1),h.2)
def iA(a1:uY)(b0 b1 b2 b3:Int)(b4:eE)(b5:pC)(b6:sI)(b7:Int)(b8:pL)(b9 XG:Int)(XF:cW)(XN XB XK XE:Int)(XJ:qS)(WZ:mJ)(XV:Int)(XU:dZ)(XT:Int)(XS:dZ):Option ((Int×aQ×Int×Int×Int×eE)×fP×Int×Int×Int×Int×eE×pC×sI×Int×pL×Int×Int×cW×Int×Int×Int×Int×qS×mJ×Int×dZ×Int×dZ):=
 (bif (cm .lss a1.1 0) then
  some true
 else
  some (cm .geq a1.1 11)).bind fun C=>
  jp (fun (u:Int×Int×Int×Int×pC×Int×pL×Int×Int×Int×Int×Int×Int×qS×Int×aQ×Int×dZ×eE×sI×cW×Int×dZ×mJ)=>
   (dY (u.2.2.2.2.2.2.2.2.2.2.2.2.2.2.1,u.2.2.2.2.2.2.2.2.2.2.2.2.2.2.2.1,0,0,0,([]:eE)) u.1 u.2.1 u.2.2.1 u.2.2.2.1 u.2.2.2.2.2.2.2.2.2.2.2.2.2.2.2.2.2.2.1 u.2.2.2.2.1 u.2.2.2.2.2.2.2.2.2.2.2.2.2.2.2.2.2.2.2.1 u.2.2.2.2.2.1 u.2.2.2.2.2.2.1 u.2.2.2.2.2.2.2.1 u.2.2.2.2.2.2.2.2.1 u.2.2.2.2.2.2.2.2.2.2.2.2.2.2.2.2.2.2.2.2.1 u.2.2.2.2.2.2.2.2.2.1 u.2.2.2.2.2.2.2.2.2.2.1 u.2.2.2.2.2.2.2.2.2.2.2.1 u.2.2.2.2.2.2.2.2.2.2.2.2.1 u.2.2.2.2.2.2.2.2.2.2.2.2.2.1 u.2.2.2.2.2.2.2.2.2.2.2.2.2.2.2.2.2.2.2.2.2.2.2 u.2.2.2.2.2.2.2.2.2.2.2.2.2.2.2.2.1 u.2.2.2.2.2.2.2.2.2.2.2.2.2.2.2.2.2.1 u.2.2.2.2.2.2.2.2.2.2.2.2.2.2.2.2.2.2.2.2.2.1 u.2.2.2.2.2.2.2.2.2.2.2.2.2.2.2.2.2.2.2.2.2.2.1).bind fun A=>
    some (A.1,A.2,u.1,u.2.1,u.2.2.1,u.2.2.2.1,u.2.2.2.2.2.2.2.2.2.2.2.2.2.2.2.2.2.2.1,u.2.2.2.2.1,u.2.2.2.2.2.2.2.2.2.2.2.2.2.2.2.2.2.2.2.1,u.2.2.2.2.2.1,u.2.2.2.2.2.2.1,u.2.2.2.2.2.2.2.1,u.2.2.2.2.2.2.2.2.1,u.2.2.2.2.2.2.2.2.2.2.2.2.2.2.2.2.2.2.2.2.1,u.2.2.2.2.2.2.2.2.2.1,u.2.2.2.2.2.2.2.2.2.2.1,u.2.2.2.2.2.2.2.2.2.2.2.1,u.2.2.2.2.2.2.2.2.2.2.2.2.1,u.2.2.2.2.2.2.2.2.2.2.2.2.2.1,u.2.2.2.2.2.2.2.2.2.2.2.2.2.2.2.2.2.2.2.2.2.2.2,u.2.2.2.2.2.2.2.2.2.2.2.2.2.2.2.2.1,u.2.2.2.2.2.2.2.2.2.2.2.2.2.2.2.2.2.1,u.2.2.2.2.2.2.2.2.2.2.2.2.2.2.2.2.2.2.2.2.2.1,u.2.2.2.2.2.2.2.2.2.2.2.2.2.2.2.2.2.2.2.2.2.2.1)
   ) fun B=>
  bif C then
   B (b0,b1,b2,b3,b5,b7,b8,b9,XG,XN,XB,XK,XE,XJ,3,aR,XV,XU,b4,b6,XF,XT,XS,WZ)
  else
   (uL a1.1).bind fun D=>
    (wM D a1 b0 b1 b2 b3 b4 b5 b6 b7 b8 b9 XG XF XN XB XK XE XJ WZ XV XU XT XS).bind fun h=>
     (bif (Option.isSome h.2.1) then
      some ((!(Option.isSome h.2.1)),(Option.getD h.2.1 0))
     else
      some (false,0)).bind fun z=>
      bif z.1 then
       some ((z.2,aR,0,0,0,([]:eE)),h.2.1,h.2.2.1,h.2.2.2.1,h.2.2.2.2.1,h.2.2.2.2.2.1,h.2.2.2.2.2.2.1,h.2.2.2.2.2.2.2.1,h.2.2.2.2.2.2.2.2.1,h.2.2.2.2.2.2.2.2.2.1,h.2.2.2.2.2.2.2.2.2.2.1,h.2.2.2.2.2.2.2.2.2.2.2.1,h.2.2.2.2.2.2.2.2.2.2.2.2.1,h.2.2.2.2.2.2.2.2.2.2.2.2.2.1,h.2.2.2.2.2.2.2.2.2.2.2.2.2.2.1,h.2.2.2.2.2.2.2.2.2.2.2.2.2.2.2.1,h.2.2.2.2.2.2.2.2.2.2.2.2.2.2.2.2.1,h.2.2.2.2.2.2.2.2.2.2.2.2.2.2.2.2.2.1,h.2.2.2.2.2.2.2.2.2.2.2.2.2.2.2.2.2.2.1,h.2.2.2.2.2.2.2.2.2.2.2.2.2.2.2.2.2.2.2.1,h.2.2.2.2.2.2.2.2.2.2.2.2.2.2.2.2.2.2.2.2.1,h.2.2.2.2.2.2.2.2.2.2.2.2.2.2.2.2.2.2.2.2.2.1,h.2.2.2.2.2.2.2.2.2.2.2.2.2.2.2.2.2.2.2.2.2.2.1,h.2.2.2.2.2.2.2.2.2.2.2.2.2.2.2.2.2.2.2.2.2.2.2)
      else
       B (h.2.2.1,h.2.2.2.1,h.2.2.2.2.1,h.2.2.2.2.2.1,h.2.2.2.2.2.2.2.1,h.2.2.2.2.2.2.2.2.2.1,h.2.2.2.2.2.2.2.2.2.2.1,h.2.2.2.2.2.2.2.2.2.2.2.1,h.2.2.2.2.2.2.2.2.2.2.2.2.1,h.2.2.2.2.2.2.2.2.2.2.2.2.2.2.1,h.2.2.2.2.2.2.2.2.2.2.2.2.2.2.2.1,h.2.2.2.2.2.2.2.2.2.2.2.2.2.2.2.2.1,h.2.2.2.2.2.2.2.2.2.2.2.2.2.2.2.2.2.1,h.2.2.2.2.2.2.2.2.2.2.2.2.2.2.2.2.2.2.1,z.2,h.1,h.2.2.2.2.2.2.2.2.2.2.2.2.2.2.2.2.2.2.2.2.1,h.2.2.2.2.2.2.2.2.2.2.2.2.2.2.2.2.2.2.2.2.2.1,h.2.2.2.2.2.2.1,h.2.2.2.2.2.2.2.2.1,h.2.2.2.2.2.2.2.2.2.2.2.2.2.1,h.2.2.2.2.2.2.2.2.2.2.2.2.2.2.2.2.2.2.2.2.2.2.1,h.2.2.2.2.2.2.2.2.2.2.2.2.2.2.2.2.2.2.2.2.2.2.2,h.2.2.2.2.2.2.2.2.2.2.2.2.2.2.2.2.2.2.2.1)
def kP(a0:Int)(a1:(List uY)):Option ((Option (Int×Int×Int×Int×eE×pC×sI×Int×pL×Int×Int×cW×Int×Int×Int×Int×qS×mJ×Int×dZ×Int×dZ))×Le×fP):=
 (bif (cm .lss a0 1) then
  some true
 else
  some (cm .gtr a0 32)).bind fun C=>
  bif C then
   some ((none:_),([]:Le),(some 1))
  else
   bif (cm .gtr (a1.length:Int) 300) then
    some ((none:_),([]:Le),(some 2))
   else
    (iH a0).bind fun B=>
     vB B.1 (
      bif (Option.isSome B.2) then
       some ((none:_),([]:Le),B.2)
      else
       lp (β:=Unit) (fun (_:Unit)=>
        bif (cm .lss 0 (a1.length:Int)) then
         (Sw.idx a1 0).bind fun _=>
          none
        else
         some (.done (.WT ()))
        ) () fun (_:Unit)=>
       some ((none:_),([]:Le),(none:Option Int))
      ) fun A=>
      bif (Option.isSome B.2) then
       some ((none:_),([]:Le),B.2)
      else
       lp (β:=Int×Int×Int×Int×pC×Int×pL×Int×Int×Int×Int×Int×Int×qS×Le×Int×dZ×eE×sI×cW×Int×dZ×mJ) (fun (h:Int×Int×Int×Int×Int×pC×Int×pL×Int×Int×Int×Int×Int×Int×qS×Le×Int×dZ×eE×sI×cW×Int×dZ×mJ)=>
        bif (cm .lss h.1 (a1.length:Int)) then
         (Sw.idx a1 h.1).bind fun D=>
          (iA D h.2.1 h.2.2.1 h.2.2.2.1 h.2.2.2.2.1 h.2.2.2.2.2.2.2.2.2.2.2.2.2.2.2.2.2.2.1 h.2.2.2.2.2.1 h.2.2.2.2.2.2.2.2.2.2.2.2.2.2.2.2.2.2.2.1 h.2.2.2.2.2.2.1 h.2.2.2.2.2.2.2.1 h.2.2.2.2.2.2.2.2.1 h.2.2.2.2.2.2.2.2.2.1 h.2.2.2.2.2.2.2.2.2.2.2.2.2.2.2.2.2.2.2.2.1 h.2.2.2.2.2.2.2.2.2.2.1 h.2.2.2.2.2.2.2.2.2.2.2.1 h.2.2.2.2.2.2.2.2.2.2.2.2.1 h.2.2.2.2.2.2.2.2.2.2.2.2.2.1 h.2.2.2.2.2.2.2.2.2.2.2.2.2.2.1 h.2.2.2.2.2.2.2.2.2.2.2.2.2.2.2.2.2.2.2.2.2.2.2 h.2.2.2.2.2.2.2.2.2.2.2.2.2.2.2.2.1 h.2.2.2.2.2.2.2.2.2.2.2.2.2.2.2.2.2.1 h.2.2.2.2.2.2.2.2.2.2.2.2.2.2.2.2.2.2.2.2.2.1 h.2.2.2.2.2.2.2.2.2.2.2.2.2.2.2.2.2.2.2.2.2.2.1).bind fun u=>
           bif (Option.isSome u.2.1) then
            some (.done (.ret ((none:_),([]:Le),u.2.1)))
           else
            (Sw.app h.2.2.2.2.2.2.2.2.2.2.2.2.2.2.2.1 ([u.1]:Le)).bind fun E=>
             some (.next ((ar .add .i64 h.1 1),u.2.2.1,u.2.2.2.1,u.2.2.2.2.1,u.2.2.2.2.2.1,u.2.2.2.2.2.2.2.1,u.2.2.2.2.2.2.2.2.2.1,u.2.2.2.2.2.2.2.2.2.2.1,u.2.2.2.2.2.2.2.2.2.2.2.1,u.2.2.2.2.2.2.2.2.2.2.2.2.1,u.2.2.2.2.2.2.2.2.2.2.2.2.2.2.1,u.2.2.2.2.2.2.2.2.2.2.2.2.2.2.2.1,u.2.2.2.2.2.2.2.2.2.2.2.2.2.2.2.2.1,u.2.2.2.2.2.2.2.2.2.2.2.2.2.2.2.2.2.1,u.2.2.2.2.2.2.2.2.2.2.2.2.2.2.2.2.2.2.1,E,u.2.2.2.2.2.2.2.2.2.2.2.2.2.2.2.2.2.2.2.2.1,u.2.2.2.2.2.2.2.2.2.2.2.2.2.2.2.2.2.2.2.2.2.1,u.2.2.2.2.2.2.1,u.2.2.2.2.2.2.2.2.1,u.2.2.2.2.2.2.2.2.2.2.2.2.2.1,u.2.2.2.2.2.2.2.2.2.2.2.2.2.2.2.2.2.2.2.2.2.2.1,u.2.2.2.2.2.2.2.2.2.2.2.2.2.2.2.2.2.2.2.2.2.2.2,u.2.2.2.2.2.2.2.2.2.2.2.2.2.2.2.2.2.2.2.1))
        else
         some (.done (.WT (h.2.1,h.2.2.1,h.2.2.2.1,h.2.2.2.2.1,h.2.2.2.2.2.1,h.2.2.2.2.2.2.1,h.2.2.2.2.2.2.2.1,h.2.2.2.2.2.2.2.2.1,h.2.2.2.2.2.2.2.2.2.1,h.2.2.2.2.2.2.2.2.2.2.1,h.2.2.2.2.2.2.2.2.2.2.2.1,h.2.2.2.2.2.2.2.2.2.2.2.2.1,h.2.2.2.2.2.2.2.2.2.2.2.2.2.1,h.2.2.2.2.2.2.2.2.2.2.2.2.2.2.1,h.2.2.2.2.2.2.2.2.2.2.2.2.2.2.2.1,h.2.2.2.2.2.2.2.2.2.2.2.2.2.2.2.2.1,h.2.2.2.2.2.2.2.2.2.2.2.2.2.2.2.2.2.1,h.2.2.2.2.2.2.2.2.2.2.2.2.2.2.2.2.2.2.1,h.2.2.2.2.2.2.2.2.2.2.2.2.2.2.2.2.2.2.2.1,h.2.2.2.2.2.2.2.2.2.2.2.2.2.2.2.2.2.2.2.2.1,h.2.2.2.2.2.2.2.2.2.2.2.2.2.2.2.2.2.2.2.2.2.1,h.2.2.2.2.2.2.2.2.2.2.2.2.2.2.2.2.2.2.2.2.2.2.1,h.2.2.2.2.2.2.2.2.2.2.2.2.2.2.2.2.2.2.2.2.2.2.2)))
        ) (0,A.1,A.2.1,A.2.2.1,A.2.2.2.1,A.2.2.2.2.2.1,A.2.2.2.2.2.2.2.1,A.2.2.2.2.2.2.2.2.1,A.2.2.2.2.2.2.2.2.2.1,A.2.2.2.2.2.2.2.2.2.2.1,A.2.2.2.2.2.2.2.2.2.2.2.2.1,A.2.2.2.2.2.2.2.2.2.2.2.2.2.1,A.2.2.2.2.2.2.2.2.2.2.2.2.2.2.1,A.2.2.2.2.2.2.2.2.2.2.2.2.2.2.2.1,A.2.2.2.2.2.2.2.2.2.2.2.2.2.2.2.2.1,([]:Le),A.2.2.2.2.2.2.2.2.2.2.2.2.2.2.2.2.2.2.1,A.2.2.2.2.2.2.2.2.2.2.2.2.2.2.2.2.2.2.2.1,A.2.2.2.2.1,A.2.2.2.2.2.2.1,A.2.2.2.2.2.2.2.2.2.2.2.1,A.2.2.2.2.2.2.2.2.2.2.2.2.2.2.2.2.2.2.2.2.1,A.2.2.2.2.2.2.2.2.2.2.2.2.2.2.2.2.2.2.2.2.2,A.2.2.2.2.2.2.2.2.2.2.2.2.2.2.2.2.2.1) fun (z:Int×Int×Int×Int×pC×Int×pL×Int×Int×Int×Int×Int×Int×qS×Le×Int×dZ×eE×sI×cW×Int×dZ×mJ)=>
       some ((some (z.1,z.2.1,z.2.2.1,z.2.2.2.1,z.2.2.2.2.2.2.2.2.2.2.2.2.2.2.2.2.2.1,z.2.2.2.2.1,z.2.2.2.2.2.2.2.2.2.2.2.2.2.2.2.2.2.2.1,z.2.2.2.2.2.1,z.2.2.2.2.2.2.1,z.2.2.2.2.2.2.2.1,z.2.2.2.2.2.2.2.2.1,z.2.2.2.2.2.2.2.2.2.2.2.2.2.2.2.2.2.2.2.1,z.2.2.2.2.2.2.2.2.2.1,z.2.2.2.2.2.2.2.2.2.2.1,z.2.2.2.2.2.2.2.2.2.2.2.1,z.2.2.2.2.2.2.2.2.2.2.2.2.1,z.2.2.2.2.2.2.2.2.2.2.2.2.2.1,z.2.2.2.2.2.2.2.2.2.2.2.2.2.2.2.2.2.2.2.2.2.2,z.2.2.2.2.2.2.2.2.2.2.2.2.2.2.2.1,z.2.2.2.2.2.2.2.2.2.2.2.2.2.2.2.2.1,z.2.2.2.2.2.2.2.2.2.2.2.2.2.2.2.2.2.2.2.2.1,z.2.2.2.2.2.2.2.2.2.2.2.2.2.2.2.2.2.2.2.2.2.1)),z.2.2.2.2.2.2.2.2.2.2.2.2.2.2.1,(none:Option Int))
def lY(a0:Int)(a1:(List uY)):Option ((Int×aQ×Int×Int×Int×eE)×Int×fP):=
 (kP a0 a1).bind fun D=>
  vB D.1 (
   bif (Option.isSome D.2.2) then
    some ((0,aR,0,0,0,([]:eE)),0,D.2.2)
   else
    lp (β:=Unit) (fun (_:Unit)=>
     lp (β:=Unit) (fun (_:Unit)=>
      none
      ) () fun (_:Unit)=>
     none
     ) () fun (_:Unit)=>
    none
   ) fun h=>
   bif (Option.isSome D.2.2) then
    some ((0,aR,0,0,0,([]:eE)),0,D.2.2)
   else
    lp (β:=Unit) (fun (A:Int×pC×Int×pL×Int×Int×Int×Int×qS×cW×Int×dZ×mJ)=>
     lp (β:=pC×Int×pL×Int×Int×Int×Int×qS×cW×Int×dZ×mJ) (fun (z:pC×Int×pL×Int×Int×Int×Int×qS×cW×Int×dZ×mJ)=>
      bif (cm .gtr (z.2.2.2.2.2.2.2.2.2.2.2.length:Int) 0) then
       (cT 0 h.1 h.2.1 h.2.2.1 h.2.2.2.1 h.2.2.2.2.1 z.1 h.2.2.2.2.2.2.1 z.2.1 z.2.2.1 z.2.2.2.1 z.2.2.2.2.1 z.2.2.2.2.2.2.2.2.1 h.2.2.2.2.2.2.2.2.2.2.2.2.1 z.2.2.2.2.2.1 h.2.2.2.2.2.2.2.2.2.2.2.2.2.2.1 z.2.2.2.2.2.2.1 z.2.2.2.2.2.2.2.1 z.2.2.2.2.2.2.2.2.2.2.2 h.2.2.2.2.2.2.2.2.2.2.2.2.2.2.2.2.2.2.1 h.2.2.2.2.2.2.2.2.2.2.2.2.2.2.2.2.2.2.2.1 z.2.2.2.2.2.2.2.2.2.1 z.2.2.2.2.2.2.2.2.2.2.1).bind fun B=>
        bif (Option.isSome B.1) then
         some (.done (.ret (.done (.ret ((0,aR,0,0,0,([]:eE)),0,B.1)))))
        else
         some (.next (B.2.1,B.2.2.1,B.2.2.2.1,B.2.2.2.2.1,B.2.2.2.2.2.1,B.2.2.2.2.2.2.2.1,B.2.2.2.2.2.2.2.2.1,B.2.2.2.2.2.2.2.2.2.1,B.2.2.2.2.2.2.1,B.2.2.2.2.2.2.2.2.2.2.2.1,B.2.2.2.2.2.2.2.2.2.2.2.2,B.2.2.2.2.2.2.2.2.2.2.1))
      else
       some (.done (.WT (z.1,z.2.1,z.2.2.1,z.2.2.2.1,z.2.2.2.2.1,z.2.2.2.2.2.1,z.2.2.2.2.2.2.1,z.2.2.2.2.2.2.2.1,z.2.2.2.2.2.2.2.2.1,z.2.2.2.2.2.2.2.2.2.1,z.2.2.2.2.2.2.2.2.2.2.1,z.2.2.2.2.2.2.2.2.2.2.2)))
      ) (A.2.1,A.2.2.1,A.2.2.2.1,A.2.2.2.2.1,A.2.2.2.2.2.1,A.2.2.2.2.2.2.1,A.2.2.2.2.2.2.2.1,A.2.2.2.2.2.2.2.2.1,A.2.2.2.2.2.2.2.2.2.1,A.2.2.2.2.2.2.2.2.2.2.1,A.2.2.2.2.2.2.2.2.2.2.2.1,A.2.2.2.2.2.2.2.2.2.2.2.2) fun (u:pC×Int×pL×Int×Int×Int×Int×qS×cW×Int×dZ×mJ)=>
     (bif (cm .eql u.2.2.2.2.1 h.2.2.1) then
      some true
     else
      some (cm .eql A.1 200)).bind fun F=>
      bif F then
       (dY (0,aR,0,0,0,([]:eE)) h.1 h.2.1 h.2.2.1 h.2.2.2.1 h.2.2.2.2.1 u.1 h.2.2.2.2.2.2.1 u.2.1 u.2.2.1 u.2.2.2.1 u.2.2.2.2.1 u.2.2.2.2.2.2.2.2.1 h.2.2.2.2.2.2.2.2.2.2.2.2.1 u.2.2.2.2.2.1 h.2.2.2.2.2.2.2.2.2.2.2.2.2.2.1 u.2.2.2.2.2.2.1 u.2.2.2.2.2.2.2.1 u.2.2.2.2.2.2.2.2.2.2.2 h.2.2.2.2.2.2.2.2.2.2.2.2.2.2.2.2.2.2.1 h.2.2.2.2.2.2.2.2.2.2.2.2.2.2.2.2.2.2.2.1 u.2.2.2.2.2.2.2.2.2.1 u.2.2.2.2.2.2.2.2.2.2.1).bind fun E=>
        some (.done (.ret (E.1,A.1,E.2)))
      else
       (dE h.1 h.2.1 h.2.2.1 h.2.2.2.1 h.2.2.2.2.1 u.1 h.2.2.2.2.2.2.1 u.2.1 u.2.2.1 u.2.2.2.1 u.2.2.2.2.1 u.2.2.2.2.2.2.2.2.1 h.2.2.2.2.2.2.2.2.2.2.2.2.1 u.2.2.2.2.2.1 h.2.2.2.2.2.2.2.2.2.2.2.2.2.2.1 u.2.2.2.2.2.2.1 u.2.2.2.2.2.2.2.1 u.2.2.2.2.2.2.2.2.2.2.2 h.2.2.2.2.2.2.2.2.2.2.2.2.2.2.2.2.2.2.1 h.2.2.2.2.2.2.2.2.2.2.2.2.2.2.2.2.2.2.2.1 u.2.2.2.2.2.2.2.2.2.1 u.2.2.2.2.2.2.2.2.2.2.1).bind fun C=>
        bif (Option.isSome C.1) then
         some (.done (.ret ((0,aR,0,0,0,([]:eE)),0,C.1)))
        else
         some (.next ((ar .add .i64 A.1 1),u.1,u.2.1,C.2.1,C.2.2.1,u.2.2.2.2.1,u.2.2.2.2.2.1,u.2.2.2.2.2.2.1,u.2.2.2.2.2.2.2.1,C.2.2.2.1,u.2.2.2.2.2.2.2.2.2.1,u.2.2.2.2.2.2.2.2.2.2.1,C.2.2.2.2))
     ) (0,h.2.2.2.2.2.1,h.2.2.2.2.2.2.2.1,h.2.2.2.2.2.2.2.2.1,h.2.2.2.2.2.2.2.2.2.1,h.2.2.2.2.2.2.2.2.2.2.1,h.2.2.2.2.2.2.2.2.2.2.2.2.2.1,h.2.2.2.2.2.2.2.2.2.2.2.2.2.2.2.1,h.2.2.2.2.2.2.2.2.2.2.2.2.2.2.2.2.1,h.2.2.2.2.2.2.2.2.2.2.2.1,h.2.2.2.2.2.2.2.2.2.2.2.2.2.2.2.2.2.2.2.2.1,h.2.2.2.2.2.2.2.2.2.2.2.2.2.2.2.2.2.2.2.2.2,h.2.2.2.2.2.2.2.2.2.2.2.2.2.2.2.2.2.1) fun (_:Unit)=>
    none
def kQ(a0:Int):Option ((Option (eE×(List eE)))):=
 (Sw.mk a0 aR).bind fun h=>
  (Sw.mk a0 aR).bind fun u=>
   (Sw.app ([]:(List eE)) ([u]:(List eE))).bind fun z=>
    some (some (h,z))
def jM(a0:eE):Option (eE):=
 (Sw.app ([]:eE) a0).bind fun h=>
  some h
def fJ(a0:(eE×(List eE))):Option (Int):=
 some (ar .sub .i64 (a0.2.length:Int) 1)
def iP(WG:eE)(WQ:(List eE))(a1:uY):Option (Int×aQ×eE×(List eE)):=
 (bif (cm .lss a1.1 0) then
  some true
 else
  some (cm .geq a1.1 11)).bind fun h=>
  bif h then
   some (3,aR,WG,WQ)
  else
   (bif (cm .eql a1.1 0) then
    bif (cm .lss a1.2.1 0) then
     some true
    else
     some (cm .geq a1.2.1 (WG.length:Int))
   else
    bif (cm .eql a1.1 1) then
     bif (cm .lss a1.2.1 0) then
      some true
     else
      some (cm .geq a1.2.1 (WG.length:Int))
    else
     bif (cm .eql a1.1 2) then
      bif (cm .lss a1.2.1 0) then
       some true
      else
       some (cm .geq a1.2.1 (WG.length:Int))
     else
      some false).bind fun u=>
    bif u then
     some (1,aR,WG,WQ)
    else
     bif (cm .eql a1.1 0) then
      (Sw.idx WG a1.2.1).bind fun _=>
       some (0,aR,(List.set WG (Int.toNat a1.2.1) a1.2.2.2),WQ)
     else
      bif (cm .eql a1.1 1) then
       (Sw.idx WG a1.2.1).bind fun _=>
        some (0,aR,(List.set WG (Int.toNat a1.2.1) aR),WQ)
      else
       bif (cm .eql a1.1 2) then
        (Sw.idx WG a1.2.1).bind fun z=>
         some (0,z,WG,WQ)
       else
        bif (cm .eql a1.1 3) then
         (jM WG).bind fun A=>
          (Sw.app WQ ([A]:(List eE))).bind fun B=>
           some (0,aR,WG,B)
        else
         bif (cm .eql a1.1 8) then
          (fJ (WG,WQ)).bind fun C=>
           (Sw.idx WQ C).bind fun D=>
            (jM D).bind fun E=>
             some (0,aR,E,WQ)
         else
          some (0,aR,WG,WQ)
def oG(a0 a1:eE):Option (Bool):=
 bif (cm .neq (a0.length:Int) (a1.length:Int)) then
  some false
 else
  lp (β:=Unit) (fun (h:Int)=>
   bif (cm .lss h (a0.length:Int)) then
    (Sw.idx a0 h).bind fun u=>
     (Sw.idx a1 h).bind fun z=>
      bif (!decide (u=z)) then
       some (.done (.ret false))
      else
       some (.next (ar .add .i64 h 1))
   else
    some (.done (.WT ()))
   ) 0 fun (_:Unit)=>
  some true
def qO(a0:cW)(a1 a2 a3:Int):Option (Bool):=
 bif (cm .gtr (a0.length:Int) 128) then
  some true
 else
  (lR a1 32).bind fun A=>
   (lR a2 1000).bind fun E=>
    (lR a3 150).bind fun F=>
     (lK a0 E F (ar .add .i64 1 A)).bind fun u=>
      (lY (ar .add .i64 1 A) u).bind fun z=>
       (kQ (ar .add .i64 1 A)).bind fun G=>
        vB G (
         lp (β:=Unit) (fun (_:Unit)=>
          bif (cm .lss 0 (u.length:Int)) then
           none
          else
           some (.done (.WT ()))
          ) () fun (_:Unit)=>
         none
         ) fun C=>
         lp (β:=eE×(List eE)) (fun (h:Int×eE×(List eE))=>
          bif (cm .lss h.1 (u.length:Int)) then
           (Sw.idx u h.1).bind fun H=>
            (iP h.2.1 h.2.2 H).bind fun D=>
             some (.next ((ar .add .i64 h.1 1),D.2.2.1,D.2.2.2))
          else
           some (.done (.WT (h.2.1,h.2.2)))
          ) (0,C.1,C.2) fun (B:eE×(List eE))=>
         (bif (Option.isSome z.2.2) then
          some true
         else
          bif (cm .gtr z.2.1 3) then
           some true
          else
           (fJ B).bind fun I=>
            some (cm .neq z.1.2.2.2.2.1 I)).bind fun K=>
          bif K then
           some false
          else
           (fJ B).bind fun L=>
            (Sw.idx B.2 L).bind fun M=>
             (oG z.1.2.2.2.2.2 M).bind fun N=>
              some N
end Go.Mo
namespace Go.Mo
open Go Go.Sw
def Dj(a0:(List aQ))(a1:aQ):Option (Int):=
 lp (β:=Unit) (fun (h:Int)=>
  bif (cm .lss h (a0.length:Int)) then
   (Sw.idx a0 h).bind fun u=>
    bif (decide (u=a1)) then
     some (.done (.ret h))
    else
     some (.next (ar .add .i64 h (1:Int)))
  else
   some (.done (.WT ()))
  ) (0:Int) fun (_:Unit)=>
 some (-1:Int)
end Go.Mo
namespace Go.Pl
open Go Go.Sw
def sY{A B D:Type}(g:Nat->A->B->Step B D)(fin:B->D):Nat->B->List A->D
 |_,acc,[]=>fin acc
 |i,acc,x::xs=>match g i x acc with
  | .next h=>sY g fin (i+1) h xs
  | .done d=>d
def Jc{α B D:Type}(st:Nat->B->α)(i:Nat):Step B D->Step α D
 | .next a=> .next (st i a)
 | .done d=> .done d
def out{β γ:Type}(k:β->Option γ):Ex β γ->Option γ
 | .WT y=>k y
 | .ret z=>some z
theorem Qy{α A B D:Type}{step:α->Option (Step α D)}{l:List A}(st:Nat->B->α)(g:Nat->A->B->Step B D)(fin:B->D)
  (hs:∀pre x rest acc,l=pre++x::rest->step (st pre.length acc)=some (Jc st (pre.length+1) (g pre.length x acc)))
  (he:∀acc,step (st l.length acc)=some (.done (fin acc))):
  ∀(rest pre:List A) (acc:B) (f:Nat),l=pre++rest->rest.length<f->loop step f (st pre.length acc)=some (sY g fin pre.length acc rest)
 | [],pre,acc,f,h,u=>by
  obtain⟨f,rfl⟩:∃f',f=f'+1:=⟨f - 1,by simp at u;omega⟩
  have:=he acc;rw[h,ai] at this;simp[loop,this,sY]
 |x::rest,pre,acc,f,h,u=>by
  obtain⟨f,rfl⟩:∃f',f=f'+1:=⟨f - 1,by simp at u;omega⟩
  have z:=hs pre x rest acc h;simp only[loop,z,sY];cases hg:g pre.length x acc with
  |done d=>rfl
  |next E=>
   have C:=Qy st g fin hs he rest (pre++[x]) E f (by rw[h];simp) (by simp at u;omega);simpa[Jc] using C
theorem Bo{α A B β γ:Type}{step:α->Option (Step α (Ex β γ))}{l:List A}{k:β->Option γ}(st:Nat->B->α)(ZF:B)(g:Nat->A->B->Step B (Ex β γ))(fin:B->Ex β γ)(hf:l.length<fK)
  (hs:∀pre x rest acc,l=pre++x::rest->step (st pre.length acc)=some (Jc st (pre.length+1) (g pre.length x acc)))
  (he:∀acc,step (st l.length acc)=some (.done (fin acc))):
  lp step (st 0 ZF) k=out k (sY g fin 0 ZF l):=by
 have h:=Qy st g fin hs he l [] ZF fK rfl hf;unfold lp;simp only[X3] at h;rw[h];cases sY g fin 0 ZF l<;>rfl
theorem mZ{α:Type}(pre:List α)(x:α)(rest:List α):Sw.idx (pre++x::rest) (pre.length:Int)=some x:=by
 unfold Sw.idx;simp
theorem IA{n m:Nat}(h:n<m)(hm:m<=4611686018427387904):ar .add .i64 (n:Int) 1=((n+1:Nat):Int):=by
 unfold ar;simp only[IntKind.wrap,IntKind.signed,IntKind.bits];simp;omega
theorem pP{α:Type}(pre:List α)(x:α)(rest:List α):cm .lss (pre.length:Int) ((pre++x::rest).length:Int)=true:=by
 unfold cm;simp;omega
theorem dT{n:Nat}:cm .lss (n:Int) (n:Int)=false:=by unfold cm;simp
end Go.Pl
namespace Go.Pl
open Go Go.Sw
theorem Vi{α β γ:Type}{step:α->Option (Step α (Ex β γ))}{k:β->Option γ}(st:Nat->α)(n:Nat)(y:β)(hf:n<fK)(hs:∀i,i<n->step (st i)=some (.next (st (i+1))))(he:step (st n)=some (.done (.WT y))):lp step (st 0) k=k y:=by
 have h:∀m i,i+m=n->∀f,m<f->loop step f (st i)=some (.WT y):=by
  intro m
  induction m with
  |zero=>
   intro i u f hf;obtain⟨f,rfl⟩:∃f',f=f'+1:=⟨f - 1,by omega⟩
   simp only[aDg] at u;subst u;simp[loop,he]
  |succ m z=>
   intro i u f hf;obtain⟨f,rfl⟩:∃f',f=f'+1:=⟨f - 1,by omega⟩
   simp only[loop,hs i (by omega)];exact z (i+1) (by omega) f (by omega)
 unfold lp;rw[h n 0 (by omega) fK hf]
theorem wrap_i64{n:Int}(h: -9223372036854775808<=n/\n<=9223372036854775807):IntKind.wrap .i64 n=n:=Bb (k:= .i64) (by unfold Db;simp[IntKind.min,IntKind.max,IntKind.signed,IntKind.bits];omega)
theorem Nr{n:Int}(h:0<=n/\n<=4294967295):IntKind.wrap .u32 n=n:=Bb (k:= .u32) (by unfold Db;simp[IntKind.min,IntKind.max,IntKind.signed,IntKind.bits];omega)
theorem sC(w n:Nat):BitVec.ofInt w (n:Int)=BitVec.ofNat w n:=by
 apply BitVec.eq_of_toNat_eq;simp
theorem OZ{a b:Nat}(ha:a<4294967296)(hb:b<4294967296):ar .xor .u32 (a:Int) (b:Int)=((a ^^^ b:Nat):Int):=by
 have h:a ^^^ b<2 ^ 32:=aCd (by simpa using ha) (by simpa using hb);show IntKind.wrap .u32 ((BitVec.ofInt 32 (a:Int) ^^^ BitVec.ofInt 32 (b:Int)).toNat:Int)=_;simp only[sC,aEu,aB8];rw[R5 (by simpa using ha),R5 (by simpa using hb)];exact Nr (by simp at h;omega)
theorem SK{a:Nat}(ha:a<4294967296):ar .and .u32 (a:Int) 1=((a % 2:Nat):Int):=by
 show IntKind.wrap .u32 ((BitVec.ofInt 32 (a:Int) &&& BitVec.ofInt 32 ((1:Nat):Int)).toNat:Int)=_;simp only[sC,aEv,aB8];rw[R5 (a:=a) (by simpa using ha),R5 (a:=1) (by decide),Nat.and_one_is_mod];exact Nr (by omega)
theorem SL{a:Nat}(ha:a<2):ar .mul .u32 3988292384 (a:Int)=((if a=1 then 3988292384 else 0:Nat):Int):=by
 have:a=0\/a=1:=by omega
 rcases this with rfl | rfl
 ·rfl
 ·decide
theorem UQ{a:Nat}:sh .shr .u32 (a:Int) 1=((a / 2:Nat):Int):=by
 show Int.fdiv _ _=_;have:(2:Int) ^ min (1:Int).toNat (IntKind.bits .u32)=2:=by decide
 rw[this,wq _ (by omega)];omega
theorem SM{a:Nat}(ha:a<4294967296):CV .u32 (a:Int)=((4294967295 - a:Nat):Int):=by
 unfold CV;show IntKind.wrap .u32 ((BitVec.allOnes 32 ^^^ BitVec.ofInt 32 (a:Int)).toNat:Int)=_;simp only[sC,BitVec.allOnes_xor,BitVec.toNat_not,aB8];rw[R5 (by simpa using ha)];exact Nr (by omega)
theorem IB(a b:Nat):Int.tdiv (a:Int) (b:Int)=((a / b:Nat):Int):=rfl
theorem IC{a b:Nat}(ha:a<=9223372036854775807):ar .quo .i64 (a:Int) (b:Int)=((a / b:Nat):Int):=by
 show IntKind.wrap .i64 _=_;rw[IB];have:=Nat.div_le_self a b;generalize a / b=q at*;exact wrap_i64 (by omega)
theorem BL{a b:Nat}:ar .rem .i64 (a:Int) (b:Int)=((a % b:Nat):Int):=rfl
theorem SN{a b:Nat}(h:a+b<=9223372036854775807):ar .add .i64 (a:Int) (b:Int)=((a+b:Nat):Int):=by
 show IntKind.wrap .i64 _=_;rw[<-Int.natCast_add];exact wrap_i64 (by omega)
theorem Ia{a b:Nat}(h:a*b<=9223372036854775807):ar .mul .i64 (a:Int) (b:Int)=((a*b:Nat):Int):=by
 show IntKind.wrap .i64 _=_;rw[<-Int.natCast_mul];exact wrap_i64 (by omega)
theorem ID{n:Int}(h:n≠0):nz n=some ():=by unfold nz;rw[WV h]
theorem QB{a b:Nat}:cm .lss (a:Int) (b:Int)=decide (a<b):=by unfold cm;simp
theorem MV(a b i:Nat):(a ^^^ b) / 2 ^ i % 2=(a / 2 ^ i+b / 2 ^ i) % 2:=by
 have h:=Nat.testBit_xor a b i;simp only[Nat.testBit_eq_decide_div_mod_eq] at h;have u:=aDr (a / 2 ^ i);have z:=aDr (b / 2 ^ i);have A:=aDr ((a ^^^ b) / 2 ^ i);rw[Nat.add_mod];rcases u with u | u<;>rcases z with z | z<;>rcases A with A | A<;>simp[u,z,A] at h ⊢
end Go.Pl
namespace Go.Pl
open Go Go.Sw
def Bytes(l:List Int):Prop:=∀x∈l,0<=x/\x<=255
def nat(l:List Int):List Nat:=l.map Int.toNat
theorem E4{α A B β γ:Type}{step:α->Option (Step α (Ex β γ))}{l:List A}{k:β->Option γ}(st:Nat->B->α)(I:Nat->B->Prop)(ZF:B)(g:Nat->A->B->B)(fin:B->β)(hf:l.length<fK)(h0:I 0 ZF)
  (hs:∀pre x rest acc,l=pre++x::rest->I pre.length acc->step (st pre.length acc)=some (.next (st (pre.length+1) (g pre.length x acc)))/\I (pre.length+1) (g pre.length x acc))
  (he:∀acc,I l.length acc->step (st l.length acc)=some (.done (.WT (fin acc)))):
  lp step (st 0 ZF) k=k (fin ((l.zipIdx).foldl (fun acc x=>g x.2 x.1 acc) ZF)):=by
 have C:∀(rest pre:List A) (acc:B) (f:Nat),l=pre++rest->I pre.length acc->rest.length<f->loop step f (st pre.length acc)=some (.WT (fin ((rest.zipIdx pre.length).foldl (fun acc x=>g x.2 x.1 acc) acc))):=by
  intro rest
  induction rest with
  |nil=>
   intro pre acc f u z hf;obtain⟨f,rfl⟩:∃f',f=f'+1:=⟨f - 1,by simp at hf;omega⟩
   have:=he acc (by rw[u,ai];exact z);rw[u,ai] at this;simp[loop,this]
  |cons x rest F=>
   intro pre acc f u z hf;obtain⟨f,rfl⟩:∃f',f=f'+1:=⟨f - 1,by simp at hf;omega⟩
   obtain⟨D,E⟩:=hs pre x rest acc u z;simp only[loop,D];have:=F (pre++[x]) (g pre.length x acc) f (by rw[u];simp) (by simpa using E) (by simp at hf;omega);simpa using this
 have h:=C l [] ZF fK rfl h0 hf;unfold lp;simp only[X3] at h;rw[h]
theorem VU{α:Type}(xs ys:List α)(h:xs.length+ys.length<=4294967296):Sw.app xs ys=some (xs++ys):=by unfold Sw.app;rw[XC h]
theorem ZX{A:Type}(w:A->List Int):∀(l:List A) (i:Nat) (acc:List Int),(l.zipIdx i).foldl (fun acc x=>acc++w x.1) acc=acc++l.flatMap w
 | [],_,acc=>by simp
 |x::l,i,acc=>by simp[ZX w l]
end Go.Pl
namespace Go.Pl
open Go Go.Sw
def Wf{α:Type}(e:Wr α)(x:α):Prop:=∃S w cs,e.ok x S w cs
theorem Wf.int{k:IntKind}{n:Int}(h:Wf (Wr.int k) n):Db k n:=by obtain⟨_,_,_,h⟩:=h;exact h.2
theorem BM{α:Type}{e:Wr α}{S w}:∀{xs:List α} {cs},e.ZK xs S w cs->∀x∈xs,Wf e x
 | [],_,_,x,h=>by simp at h
 |y::ys,_,⟨c,d,_,u,z⟩,x,h=>by
  rcases q9.1 h with rfl | h
  ·exact⟨_,_,_,u⟩
  ·exact BM z x h
theorem Wf.sl{α:Type}{e:Wr α}{xs:List α}(h:Wf (Wr.sl e) xs):xs.length<=140737488355328/\∀x∈xs,Wf e x:=by
 obtain⟨_,_,_,a,C,_,z,A⟩:=h;refine⟨z.2,?_⟩;rcases A with rfl |⟨b,D,E,_,_,_,_,B⟩
 ·intro x u;simp at u
 ·exact BM B
theorem Ev{α:Type}{e:Wr α}{x:α}{S w v}(h:e.val x S w v):Wf e x:=by obtain⟨u,h,_⟩:=h;exact⟨_,_,_,h⟩
end Go.Pl
namespace Go.Pl
open Go Go.Sw
theorem cl(m n:Int):cm .lss m n=decide (m<n):=rfl
theorem cg(m n:Int):cm .gtr m n=decide (m>n):=rfl
theorem zy(m n:Int):cm .leq m n=decide (m<=n):=rfl
theorem L4(m n:Int):cm .geq m n=decide (m>=n):=rfl
theorem ce(m n:Int):cm .eql m n=decide (m=n):=by show (m==n)=_;by_cases h:m=n<;>simp[h]
theorem cn(m n:Int):cm .neq m n=decide (m≠n):=by show (m != n)=_;by_cases h:m=n<;>simp[h]
theorem j5{m n:Int}(h: -9223372036854775808<=m+n/\m+n<=9223372036854775807):ar .add .i64 m n=m+n:=wrap_i64 h
theorem O3{m n:Int}(h: -9223372036854775808<=m - n/\m - n<=9223372036854775807):ar .sub .i64 m n=m - n:=wrap_i64 h
theorem u6{n:Nat}(h:n<=4611686018427387904):ar .add .i64 (n:Int) 1=((n+1:Nat):Int):=by rw[j5 (by omega)];push_cast;rfl
theorem QC{α A β γ:Type}{step:α->Option (Step α (Ex β γ))}{l:List A}{k:β->Option γ}(st:Nat->α)(wU:A->Bool)(z:γ)(y:β)(hf:l.length<fK)
  (hs:∀pre x rest,l=pre++x::rest->step (st pre.length)=some (if wU x then .done (.ret z) else .next (st (pre.length+1)))) (he:step (st l.length)=some (.done (.WT y))):
  lp step (st 0) k=if l.any wU then some z else k y:=by
 have B:∀(rest pre:List A) (f:Nat),l=pre++rest->rest.length<f->loop step f (st pre.length)=some (if rest.any wU then .ret z else .WT y):=by
  intro rest
  induction rest with
  |nil=>
   intro pre f u hf;obtain⟨f,rfl⟩:∃f',f=f'+1:=⟨f - 1,by simp at hf;omega⟩
   rw[ai] at u;rw[<-u];simp[loop,he]
  |cons x rest C=>
   intro pre f u hf;obtain⟨f,rfl⟩:∃f',f=f'+1:=⟨f - 1,by simp at hf;omega⟩
   simp only[loop,hs pre x rest u,List.any_cons];by_cases h:wU x=true
   ·simp[h]
   ·have:=C (pre++[x]) f (by rw[u];simp) (by simp at hf;omega);simp only[vj] at h;simp only[h,T3,l7,Bool.false_or];simpa using this
 have:=B l [] fK rfl hf;unfold lp;simp only[X3] at this;rw[this];by_cases h:l.any wU=true
 ·simp only[h,l6]
 ·simp only[vj] at h;simp only[h,T3,l7]
theorem Gn{A:Type}{l:List A}{n:Nat}(h:l.length<=n)(hn:n<=140737488355328):l.length<fK:=by unfold fK;omega
theorem kL{A:Type}{l pre rest:List A}{x:A}(h:l=pre++x::rest):cm .lss (pre.length:Int) (l.length:Int)=true:=by rw[h];exact pP pre x rest
theorem jZ{A:Type}{l pre rest:List A}{x:A}(h:l=pre++x::rest):Sw.idx l (pre.length:Int)=some x:=by rw[h];exact mZ pre x rest
theorem sD{A:Type}{l:List A}{i:Nat}{x:A}(h:l[i]? =some x):Sw.idx l (i:Int)=some x:=by unfold Sw.idx;simp[h]
theorem wZ{A:Type}{l:List A}{n:Int}(h0:0<=n)(h1:n<l.length):∃x,Sw.idx l n=some x/\l[n.toNat]? =some x:=by
 have:n.toNat<l.length:=by omega
 exact⟨l[n.toNat],by unfold Sw.idx;simp[h0,this],by simp[this]⟩
theorem DU{A:Type}[DecidableEq A](l:List A)(hl:l.length<=1000000)(k:Unit->Option Bool):
  lp (β:=Unit) (fun (I1:Int)=>bif (cm .lss I1 (l.length:Int)) then (Sw.idx l I1).bind fun qd=>(Sw.idx l I1).bind fun jn=>bif (!decide (qd=jn)) then some (.done (.ret false)) else some (.next (ar .add .i64 I1 (1:Int))) else some (.done (.WT ()))) (0:Int) k=k ():=by
 rw[show (0:Int)=(fun (i:Nat)=>(i:Int)) 0 from rfl];rw[QC (l:=l) (fun (i:Nat)=>(i:Int)) (fun _=>false) false () (Gn hl (by decide))]
 ·simp
 ·intro u x z h;simp only[kL h,XX,jZ h,cM];rw[u6 (by rw[h] at hl;simp at hl;omega)];simp
 ·simp only[dT,pF]
theorem Sv{n:Int}(h:Wf (Wr.int .i64) n): -9223372036854775808<=n/\n<=9223372036854775807:=by
 have:=h.int;unfold Db at this;simpa[IntKind.min,IntKind.max,IntKind.signed,IntKind.bits] using this
theorem Sx{α A β γ:Type}{step:α->Option (Step α (Ex β γ))}{l:List A}{k:β->Option γ}(st:Nat->α)(wU:A->Bool)(z:Nat->γ)(y:β)(hf:l.length<fK)
  (hs:∀pre x rest,l=pre++x::rest->step (st pre.length)=some (if wU x then .done (.ret (z pre.length)) else .next (st (pre.length+1)))) (he:step (st l.length)=some (.done (.WT y))):
  lp step (st 0) k=match l.findIdx? wU with | some j=>some (z j) | none=>k y:=by
 have B:∀(rest pre:List A) (f:Nat),l=pre++rest->rest.length<f->loop step f (st pre.length)=some (match rest.findIdx? wU with | some j=> .ret (z (pre.length+j)) | none=> .WT y):=by
  intro rest
  induction rest with
  |nil=>
   intro pre f h hf;obtain⟨f,rfl⟩:∃f',f=f'+1:=⟨f - 1,by simp at hf;omega⟩
   rw[ai] at h;rw[<-h];simp[loop,he]
  |cons x rest C=>
   intro pre f h hf;obtain⟨f,rfl⟩:∃f',f=f'+1:=⟨f - 1,by simp at hf;omega⟩
   simp only[loop,hs pre x rest h,List.findIdx?_cons];by_cases u:wU x=true
   ·simp[u]
   ·have:=C (pre++[x]) f (by rw[h];simp) (by simp at hf;omega);simp only[vj] at u;simp only[u,T3,l7];rw[sM,aCw] at this;rw[this];cases rest.findIdx? wU with
    |none=>rfl
    |some j=>simp only[rh];congr 3;omega
 have:=B l [] fK rfl hf;unfold lp;simp only[X3,aC4] at this;rw[this];cases l.findIdx? wU<;>rfl
theorem Ks{A:Type}(l:List A)(wU:A->Bool):l.any wU=(l.findIdx? wU).isSome:=by
 simp
end Go.Pl
namespace Go.Pl
open Go Go.Sw
def yW{A B D:Type}(g:B->A->Step B D)(fin:B->D):B->List A->D
 |acc,[]=>fin acc
 |acc,x::xs=>match g acc x with
  | .next h=>yW g fin h xs
  | .done d=>d
theorem Lv{α A B β γ:Type}{step:α->Option (Step α (Ex β γ))}{l:List A}{k:β->Option γ}(st:Nat->B->α)(I:List A->B->Prop)(g:B->A->Step B (Ex β γ))(fin:B->Ex β γ)(ZF:B)(hf:l.length<fK)(h0:I [] ZF)
  (hs:∀pre x rest acc,l=pre++x::rest->I pre acc->step (st pre.length acc)=some (Jc st (pre.length+1) (g acc x))/\∀YB,g acc x= .next YB->I (pre++[x]) YB)
  (he:∀acc,I l acc->step (st l.length acc)=some (.done (fin acc))):
  lp step (st 0 ZF) k=out k (yW g fin ZF l):=by
 have C:∀(rest pre:List A) (acc:B) (f:Nat),l=pre++rest->I pre acc->rest.length<f->loop step f (st pre.length acc)=some (yW g fin acc rest):=by
  intro rest
  induction rest with
  |nil=>
   intro pre acc f u z hf;obtain⟨f,rfl⟩:∃f',f=f'+1:=⟨f - 1,by simp at hf;omega⟩
   rw[ai] at u;subst u;simp[loop,he acc z,yW]
  |cons x rest F=>
   intro pre acc f u z hf;obtain⟨f,rfl⟩:∃f',f=f'+1:=⟨f - 1,by simp at hf;omega⟩
   obtain⟨D,E⟩:=hs pre x rest acc u z;simp only[loop,D,yW];cases hg:g acc x with
   |done d=>rfl
   |next YB=>
    have:=F (pre++[x]) YB f (by rw[u];simp) (E YB hg) (by simp at hf;omega);simpa[Jc] using this
 have h:=C l [] ZF fK rfl h0 hf;unfold lp;simp only[X3] at h;rw[h];cases yW g fin ZF l<;>rfl
theorem IE{α A B β γ:Type}{step:α->Option (Step α (Ex β γ))}{l:List A}{k:β->Option γ}(st:Nat->B->α)(I:List A->B->Prop)(fin:B->β)(ZF:B)(hf:l.length<fK)(h0:I [] ZF)
  (hs:∀pre x rest acc,l=pre++x::rest->I pre acc->∃YB,step (st pre.length acc)=some (.next (st (pre.length+1) YB))/\I (pre++[x]) YB)
  (he:∀acc,I l acc->step (st l.length acc)=some (.done (.WT (fin acc)))):∃acc,I l acc/\lp step (st 0 ZF) k=k (fin acc):=by
 have D:∀(rest pre:List A) (acc:B) (f:Nat),l=pre++rest->I pre acc->rest.length<f->∃YB,I l YB/\loop step f (st pre.length acc)=some (.WT (fin YB)):=by
  intro rest
  induction rest with
  |nil=>
   intro pre acc f h u hf;obtain⟨f,rfl⟩:∃f',f=f'+1:=⟨f - 1,by simp at hf;omega⟩
   rw[ai] at h;subst h;exact⟨acc,u,by simp[loop,he acc u]⟩
  |cons x rest H=>
   intro pre acc f h u hf;obtain⟨f,rfl⟩:∃f',f=f'+1:=⟨f - 1,by simp at hf;omega⟩
   obtain⟨YB,C,z⟩:=hs pre x rest acc h u;obtain⟨E,F,G⟩:=H (pre++[x]) YB f (by rw[h];simp) z (by simp at hf;omega);exact⟨E,F,by simp only[loop,C];simpa using G⟩
 obtain⟨acc,C,z⟩:=D l [] ZF fK rfl h0 hf;exact⟨acc,C,by unfold lp;simp only[X3] at z;rw[z]⟩
theorem Dk{α A B β γ:Type}{step:α->Option (Step α (Ex β γ))}{l:List A}{k:β->Option γ}{r:Option γ}(st:Nat->B->α)(I:List A->B->Prop)(fin:B->β)(ZF:B)(hf:l.length<fK)(h0:I [] ZF)
  (hs:∀pre x rest acc,l=pre++x::rest->I pre acc->∃YB,step (st pre.length acc)=some (.next (st (pre.length+1) YB))/\I (pre++[x]) YB)
  (he:∀acc,I l acc->step (st l.length acc)=some (.done (.WT (fin acc)))) (hr:∀acc,I l acc->k (fin acc)=r):lp step (st 0 ZF) k=r:=by
 obtain⟨acc,h,u⟩:=IE (k:=k) st I fin ZF hf h0 hs he;rw[u,hr acc h]
theorem MW{α β γ:Type}{step:α->Option (Step α (Ex β γ))}{k:β->Option γ}(I:α->Prop)(m:α->Nat)(R:β->Prop)(s0:α)(hm:m s0<fK)(h0:I s0)
  (hs:∀s,I s->(∃s',step s=some (.next s')/\I s'/\m s'<m s)\/∃y,step s=some (.done (.WT y))/\R y):∃y,R y/\lp step s0 k=k y:=by
 have A:∀(n:Nat) (s:α) (f:Nat),m s<=n->n<f->I s->∃y,R y/\loop step f s=some (.WT y):=by
  intro n
  induction n with
  |zero=>
   intro s f B C z;obtain⟨f,rfl⟩:∃f',f=f'+1:=⟨f - 1,by omega⟩
   rcases hs s z with⟨s',h,u,F⟩|⟨y,h,u⟩
   ·omega
   ·exact⟨y,u,by simp[loop,h]⟩
  |succ n G=>
   intro s f B C z;obtain⟨f,rfl⟩:∃f',f=f'+1:=⟨f - 1,by omega⟩
   rcases hs s z with⟨s',h,u,F⟩|⟨y,h,u⟩
   ·obtain⟨y,D,E⟩:=G s' f (by omega) (by omega) u;exact⟨y,D,by simp[loop,h,E]⟩
   ·exact⟨y,u,by simp[loop,h]⟩
 obtain⟨y,h,u⟩:=A (m s0) s0 fK (YZ _) hm h0;exact⟨y,h,by unfold lp;rw[u]⟩
theorem VL{i j:Nat}(h:i+j<=4611686018427387904):IntKind.wrap .i64 (sh .shr .u64 (IntKind.wrap .u64 (ar .add .i64 (i:Int) (j:Int))) (1:Int))=(((i+j) / 2:Nat):Int):=by
 rw[j5 (by omega)];have u:IntKind.wrap .u64 ((i:Int)+(j:Int))=(i:Int)+(j:Int):=Bb (k:= .u64) (by unfold Db;simp[IntKind.min,IntKind.max,IntKind.signed,IntKind.bits];omega);rw[u];have z:sh .shr .u64 ((i:Int)+(j:Int)) 1=(((i+j) / 2:Nat):Int):=by
  show Int.fdiv _ _=_;have:(2:Int) ^ min (1:Int).toNat (IntKind.bits .u64)=2:=by decide
  rw[this,wq _ (by omega)];omega
 rw[z];exact wrap_i64 (by omega)
theorem PA(c:Bool){γ:Type}(x y:Option γ):(bif c then x else y)=if c=true then x else y:=by cases c<;>rfl
end Go.Pl
namespace Go.Pl
open Go Go.Sw Go.Mo
def F1(n:Int):Prop:= -9223372036854775808<=n/\n<=9223372036854775807
def pick(c n:Int):Int:=(if c<0 then -(c+1) else c).tmod n
theorem Lw{c n:Int}(hc:F1 c)(hn:0<n):lR c n=some (pick c n):=by
 unfold lR pick;have u:nz n=some ():=ID (by omega);simp only[jp,u,cM,cl];by_cases h:c<0
 ·simp only[h,fa,XX,l6];rw[j5 (by unfold F1 at hc;omega),wrap_i64 (by unfold F1 at hc;omega)];rw[show 0 - (c+1)= -(c+1) by omega];rfl
 ·simp only[h,D5,pF,l7];rfl
theorem Lx{c n:Int}(hn:0<n):0<=pick c n/\pick c n<n:=by
 unfold pick;have h:0<=(if c<0 then -(c+1) else c):=by split<;>omega
 exact⟨aEy _ h,Int.tmod_lt_of_pos _ hn⟩
def IF(l:List Int):Prop:=(∀x∈l,F1 x)/\l.length<=256
theorem Ys{l:List Int}(h:IF l)(i:Nat)(hi:i<=1000000):∃v:Nat,tX l (i:Int)=some (v:Int)/\v<=1000003+i*7919:=by
 unfold tX;rw[ce];by_cases u:(l.length:Int)=0
 ·refine⟨i*31,?_,by omega⟩;simp only[u,fa,XX];rw[show ar .mul .i64 (i:Int) 31=((i*31:Nat):Int) from Ia (b:=31) (by omega)]
 ·have A:0<l.length:=by omega
  have z:i % l.length<l.length:=nj _ A;simp only[u,D5,pF,ID u,cM];rw[BL,sD (F5 z),cM];rw[Lw (h.1 _ (ff z)) (by omega),cM,IC (by omega)];have C:=Lx (c:=l[i % l.length]) (n:=1000003) (by omega);have B:i / l.length<=i:=Nat.div_le_self _ _;refine⟨(pick l[i % l.length] 1000003).toNat+i / l.length*7919,?_,?_⟩
  ·rw[show ar .mul .i64 ((i / l.length:Nat):Int) 7919=((i / l.length*7919:Nat):Int) from Ia (b:=7919) (by omega)];rw[j5 (by omega)];have e:pick l[i % l.length] 1000003=(((pick l[i % l.length] 1000003).toNat:Nat):Int):=by omega
   rw[e];congr 1
  ·have:i / l.length*7919<=i*7919:=vi _ B;omega
theorem DV(n:Int):0<=IntKind.wrap .u8 n/\IntKind.wrap .u8 n<=255:=by
 unfold IntKind.wrap;simp only[IntKind.signed,IntKind.bits];simp;omega
def ZN(b:aQ):Prop:=b.length=8/\Bytes b
theorem E2:ZN aR:=⟨rfl,fun x h=>by unfold aR at h;simp at h;omega⟩
theorem IG{b:aQ}(h:ZN b)(i:Nat)(n:Int):ZN (List.set b i (IntKind.wrap .u8 n)):=by
 refine⟨by simpa using h.1,fun x u=>?_⟩;rcases aCz u with u | rfl
 ·exact h.2 x u
 ·exact DV n
theorem PB{α β γ:Type}{step:α->Option (Step α (Ex β γ))}{k:β->Option γ}{B:Type}(st:Nat->B->α)(fin:B->β)(n:Nat)(I:Nat->B->Prop)(b0:B)(hf:n<fK)(h0:I 0 b0)
  (hs:∀i b,i<n->I i b->∃b',step (st i b)=some (.next (st (i+1) b'))/\I (i+1) b') (he:∀b,I n b->step (st n b)=some (.done (.WT (fin b)))):
  ∃b,I n b/\lp step (st 0 b0) k=k (fin b):=by
 have A:∀(m i f:Nat) (b:B),i+m=n->m<f->I i b->∃b',I n b'/\loop step f (st i b)=some (.WT (fin b')):=by
  intro m
  induction m with
  |zero=>
   intro i f b C hf h;obtain⟨f,rfl⟩:∃f',f=f'+1:=⟨f - 1,by omega⟩
   have:i=n:=by omega
   subst this;exact⟨b,h,by simp[loop,he b h]⟩
  |succ m G=>
   intro i f b C hf h;obtain⟨f,rfl⟩:∃f',f=f'+1:=⟨f - 1,by omega⟩
   obtain⟨b',u,z⟩:=hs i b (by omega) h;obtain⟨D,E,F⟩:=G (i+1) f b' (by omega) (by omega) z;exact⟨D,E,by simp[loop,u,F]⟩
 obtain⟨b,u,z⟩:=A n 0 fK b0 (by omega) hf h0;exact⟨b,u,by unfold lp;rw[z]⟩
theorem Sy{l:List Int}(h:IF l)(at_:Nat)(ha:at_<=100000):∃b,kO l (at_:Int)=some b/\ZN b:=by
 unfold kO;obtain⟨v,K,R⟩:=Ys h at_ (by omega)
 rw[K,cM,ce];by_cases B:ar .rem .i64 (v:Int) 3=0
 ·exact⟨aR,by simp[B],E2⟩
 ·have E:Sw.idx aR (0:Int)=some 0:=by unfold Sw.idx aR;simp
  simp only[B,D5,pF,E,cM,jp];have C:ZN (List.set aR (Int.toNat (0:Int)) (IntKind.wrap .u8 (ar .add .i64 (1:Int) (ar .rem .i64 (ar .quo .i64 (v:Int) (3:Int)) (5:Int))))):=IG E2 _ _;by_cases D:ar .rem .i64 (v:Int) 3=2
  ·rw[ce];simp only[D,fa,XX]
   obtain⟨b,L,M⟩:=PB (γ:=aQ) (step:=fun (u:Int×aQ)=>
     bif (cm .lss u.1 (8:Int)) then
      (tX l (ar .add .i64 (at_:Int) u.1)).bind fun H=>
       (Sw.idx u.2 u.1).bind fun _=>
        some (.next ((ar .add .i64 u.1 (1:Int)),(List.set u.2 (Int.toNat u.1) (IntKind.wrap .u8 (ar .quo .i64 H (7:Int))))))
     else
      some (.done (.WT u.2))) (k:=fun I=>some I) (fun (i:Nat) (b:aQ)=>(((i+1:Nat):Int),b)) id 7 (fun _ b=>ZN b) (List.set aR (Int.toNat (0:Int)) (IntKind.wrap .u8 (ar .add .i64 (1:Int) (ar .rem .i64 (ar .quo .i64 (v:Int) (3:Int)) (5:Int))))) (by decide) C
    (fun i b Q A=>by
     have z:((i+1:Nat):Int)<8:=by omega
     obtain⟨N,O,_⟩:=Ys h (at_+(i+1)) (by omega);obtain⟨y,P,_⟩:=wZ (l:=b) (n:=((i+1:Nat):Int)) (by omega) (by have:=A.1;omega);have F:ar .add .i64 ((at_:Nat):Int) ((i+1:Nat):Int)=((at_+(i+1):Nat):Int):=SN (by omega);have G:ar .add .i64 ((i+1:Nat):Int) 1=((i+1+1:Nat):Int):=u6 (by omega);refine⟨_,?_,IG A (Int.toNat ((i+1:Nat):Int)) (ar .quo .i64 (N:Int) 7)⟩
     simp only[cl,z,fa,XX,F,O,P,G,cM])
    (fun b A=>by
     have z:¬((7+1:Nat):Int)<8:=by omega
     simp only[cl,z,D5,pF];rfl)
   exact⟨b,M,L⟩
  ·rw[ce];simp only[D,D5,pF];exact⟨_,rfl,C⟩
end Go.Pl
namespace Go.ZA
open Go.Pl
open Go Go.Sw Go.Mo
abbrev lZ:=List aQ×List (Int×aQ)×Int
def pZ(n:Nat)(p:Int×aQ):Bool:=decide (p.1<0) || decide (p.1>=n)
def nA(d:lZ):Int:=if d.1.length<1\/d.1.length>200\/d.2.1.length>800 then 2 else if d.2.1.any (pZ d.1.length) then 1 else 0
theorem Vj(x:Int×aQ)(d:lZ):lS x d=some (pZ d.1.length x):=by
 unfold lS pZ;simp only[cl,L4];by_cases h:x.1<0<;>simp[h]
theorem Pq(l:List (Int×aQ))(d:lZ)(hl:l.length<=1000000):cJ l d=some (l.any (pZ d.1.length)):=by
 unfold cJ dN;have h:=Sx (l:=l) (γ:=Int) (β:=Unit) (step:=fun (u:Int)=>bif (cm .lss u (l.length:Int)) then (Sw.idx l u).bind fun z=>(lS z d).bind fun A=>bif A then some (.done (.ret u)) else some (.next (ar .add .i64 u (1:Int))) else some (.done (.WT ()))) (k:=fun _=>some (-1:Int)) (fun (i:Nat)=>(i:Int)) (pZ d.1.length) (fun i=>(i:Int)) () (Gn hl (by decide)) ?_ ?_
 ·have B:lp (β:=Unit) (fun (u:Int)=>bif (cm .lss u (l.length:Int)) then (Sw.idx l u).bind fun z=>(lS z d).bind fun A=>bif A then some (.done (.ret u)) else some (.next (ar .add .i64 u (1:Int))) else some (.done (.WT ()))) (0:Int) (fun _=>some (-1:Int))=_:=h;rw[B,Ks];cases hf:l.findIdx? (pZ d.1.length) with
  |none=>simp[L4]
  |some j=>simp[L4]
 ·intro C x D h;simp only[kL h,XX,jZ h,cM,Vj];by_cases c:pZ d.1.length x=true
  ·simp[c]
  ·simp only[vj] at c;simp only[c,pF,T3,l7];rw[u6 (by rw[h] at hl;simp at hl;omega)]
 ·simp only[dT,pF]
theorem xA(d:lZ):mU d=some (if nA d=0 then none else some (nA d)):=by
 unfold mU nA;simp only[cl,cg];by_cases z:d.1.length<1
 ·have:(d.1.length:Int)<1:=by omega
  simp[z,this]
 by_cases A:d.1.length>200
 ·have h:¬(d.1.length:Int)<1:=by omega
  have u:(d.1.length:Int)>200:=by omega
  simp[z,A,h,u]
 by_cases C:d.2.1.length>800
 ·have h:¬(d.1.length:Int)<1:=by omega
  have u:¬(d.1.length:Int)>200:=by omega
  have B:(d.2.1.length:Int)>800:=by omega
  simp[z,A,C,h,u,B]
 have h:¬(d.1.length:Int)<1:=by omega
 have u:¬(d.1.length:Int)>200:=by omega
 have B:¬(d.2.1.length:Int)>800:=by omega
 simp only[h,u,B,z,A,C,D5,pF,cM,aE1,l7];rw[Pq _ _ (by omega)];by_cases c:d.2.1.any (pZ d.1.length)=true<;>simp[c]
theorem T7(l:List aQ)(hl:l.length<=1000000):oG l l=some true:=by
 unfold oG;rw[cn];simp only[ne_eq,aE0,D5,pF];exact DU l hl _
end Go.ZA
namespace Go.ZA
open Go.Pl
open Go Go.Sw Go.Mo
def MX(n:Int):Int:=if n>0 then ar .sub .i64 n 1 else n
theorem BN(s:List aQ)(p:List (Int×aQ))(n:Int):jJ s p n=some (if n=0 then (some 4,s,p,n) else (none,s,p,MX n)):=by
 unfold jJ jp MX;rw[ce,cg];by_cases h:n=0
 ·simp[h]
 ·by_cases q:n>0<;>simp[h,q]
theorem r6(d:lZ)(h1:d.1.length<=1000)(h2:d.2.1.length<=1000):rV d=some (d.1,d.2.1,d.2.2):=by
 unfold rV aP bV;rw[VU _ _ (by simp;omega),VU _ _ (by simp;omega)];rfl
def Fw(a:Int)(l:List (Int×aQ))(z:aQ):aQ:=(l.zipIdx).foldl (fun acc x=>if x.1.1=a then x.1.2 else acc) z
theorem Ac(a:Int)(z:aQ)(l:List (Int×aQ)):Fw a l z=l.foldl (fun acc p=>if p.1=a then p.2 else acc) z:=by
 unfold Fw;have:∀(l:List (Int×aQ)) (i:Nat) (z:aQ),(l.zipIdx i).foldl (fun acc x=>if x.1.1=a then x.1.2 else acc) z=l.foldl (fun acc p=>if p.1=a then p.2 else acc) z:=by
  intro l
  induction l with
  |nil=>intro i z;rfl
  |cons p l h=>intro i z;simp only[aCk,V6];exact h _ _
 exact this l 0 z
def Gp(a:Int):List (Int×(Int×aQ))->Option aQ
 | []=>none
 |p::l=>if p.2.1=a then some p.2.2 else Gp a l
theorem Qz(a:Int):∀its:List (Int×(Int×aQ)),bz (δ:=aQ) (fun (bd:(Int×(Int×aQ))) (_:Unit)=>
  bif (cm .eql bd.2.1 a) then
   some (.done bd.2.2)
  else
   some (.next ())
  ) its ()=some (match Gp a its with | some b=> .ret b | none=> .WT ())
 | []=>rfl
 |p::l=>by
  simp only[bz,Gp,ce];by_cases h:p.2.1=a
  ·simp[h]
  ·simp only[h,D5,pF,l7];have:=Qz a l;simp only[ce] at this;exact this
theorem Kt(a:Int)(z:aQ):∀its:List (Int×(Int×aQ)),(Gp a its).getD z=(its.map Prod.snd).foldr (fun p acc=>if p.1=a then p.2 else acc) z
 | []=>rfl
 |p::l=>by
  simp only[Gp,H9,List.foldr_cons,<-Kt a z l];by_cases h:p.2.1=a<;>simp[h]
theorem DW{α:Type}(l:List α):(Sw.H8 l).map Prod.snd=l.reverse:=by
 unfold Sw.H8;rw[List.map_reverse,aEx];congr 1;have:∀(l:List α) (i:Nat),(l.zipIdx i).map (Prod.snd∘fun x:α×Nat=>((x.2:Int),x.1))=l:=by
  intro l
  induction l with
  |nil=>intro i;rfl
  |cons x l h=>intro i;simp only[aCk,H9,h];rfl
 exact this l 0
theorem Yt(a:Int)(z:aQ)(l:List (Int×aQ)):(Gp a (Sw.H8 l)).getD z=Fw a l z:=by
 rw[Kt,DW,Ac,List.foldr_reverse]
theorem MY(d:lZ)(a:Int)(hl:d.2.1.length<=1000):iS d a=some (if nA d=0 then (if a<0\/a>=d.1.length then (aR,some 1) else if d.2.2=0 then (aR,some 4) else (Fw a d.2.1 (d.1.getD a.toNat []),none)) else (aR,some (nA d))):=by
 unfold iS;rw[xA,cM];by_cases e:nA d=0
 ·simp only[e,l6,j7,pF,cl,L4];by_cases h:a<0
  ·simp[h]
  by_cases u:a>=d.1.length
  ·simp[h,u]
  simp only[h,u,D5,pF,cM,aE1,l7];rw[ce d.2.2];by_cases z:d.2.2=0
  ·simp[z]
  have A:small d.2.1=some ():=by unfold small;rw[XC (by omega)]
  have B:a.toNat<d.1.length:=by omega
  have C:Sw.idx d.1 a=some (d.1.getD a.toNat []):=by unfold Sw.idx;rw[XC (by omega)];simp[R4,F5 B]
  have D:fU d.2.1=some d.2.1:=rfl;simp only[z,D5,pF,l7,D,cM,A,rg,Qz,C];rw[<-Yt];cases Gp a (Sw.H8 d.2.1)<;>rfl
 ·simp[e]
def zK(d:lZ):List aQ:=(d.2.1.zipIdx).foldl (fun acc x=>acc.set x.1.1.toNat x.1.2) d.1
theorem Yu(d:lZ):(zK d).length=d.1.length:=by
 unfold zK;generalize d.2.1.zipIdx=z;generalize d.1=s
 induction z generalizing s with
 |nil=>rfl
 |cons x z h=>rw[V6,h];simp
theorem SO{d:lZ}(e:nA d=0):∀p∈d.2.1,0<=p.1/\p.1<d.1.length:=by
 unfold nA at e;split at e
 ·cases e
 ·split at e
  ·cases e
  ·rename_i A u;intro p z;have:pZ d.1.length p=false:=by
    simp only[vj] at u;exact(aEq.1 u p z) |> fun h=>by simpa using h
   unfold pZ at this;simp at this;omega
theorem Yv(d:lZ)(e:nA d=0){p:Int×aQ}(hp:p∈d.2.1){acc:List aQ}(ha:acc.length=d.1.length):∃z,Sw.idx acc p.1=some z:=by
 have:=SO e p hp;have h:p.1.toNat<acc.length:=by omega
 exact⟨acc[p.1.toNat],by unfold Sw.idx;rw[XC this.1,F5 h]⟩
theorem IH(d:lZ)(h1:d.1.length<=1000)(h2:d.2.1.length<=1000):rX d=some (if nA d=0 then (if d.2.2=0 then (([],[],0),some 4) else ((zK d,[],MX d.2.2),none)) else (([],[],0),some (nA d))):=by
 unfold rX;rw[xA,cM];by_cases e:nA d=0
 ·simp only[e,l6,j7,pF];rw[r6 d h1 h2,cM,BN,cM];by_cases u:d.2.2=0
  ·simp[u]
  simp only[u,l7,j7,pF];refine(E4 (l:=d.2.1) (fun i (acc:List aQ)=>((i:Int),acc)) (fun _ acc=>acc.length=d.1.length) d.1 (fun _ p acc=>acc.set p.1.toNat p.2) id (Gn h2 (by decide)) rfl ?_ ?_).trans ?_
  ·intro B p E acc h A;have D:B.length<=1000:=by rw[h] at h2;simp at h2;omega
   obtain⟨z,C⟩:=Yv d e (p:=p) (by rw[h];simp) A;refine⟨?_,by simpa using A⟩;simp only[kL h,XX,jZ h,cM,C];rw[u6 (by omega)]
  ·intro acc _;simp only[dT,pF];rfl
  ·rfl
 ·simp[e]
theorem II(d:lZ)(a:Int)(b:aQ)(h1:d.1.length<=1000)(h2:d.2.1.length<=1000):rW d a b=some (if nA d=0 then (if a<0\/a>=d.1.length then (([],[],0),some 1) else if (d.2.1.length:Int)=800 then (([],[],0),some 2) else if d.2.2=0 then (([],[],0),some 4) else ((d.1,d.2.1++[(a,b)],MX d.2.2),none)) else (([],[],0),some (nA d))):=by
 unfold rW;rw[xA,cM];by_cases e:nA d=0
 ·simp only[e,l6,j7,pF,cl,L4];by_cases h:a<0
  ·simp[h]
  by_cases u:a>=d.1.length
  ·simp[h,u]
  simp only[h,u,D5,pF,cM,aE1,l7];rw[ce];by_cases z:(d.2.1.length:Int)=800
  ·simp[z]
  simp only[z,D5,pF,l7];rw[r6 d h1 h2,cM,BN,cM];by_cases A:d.2.2=0
  ·simp[A]
  simp only[A,l7,j7,pF];rw[VU _ _ (by simp;omega),cM]
 ·simp[e]
end Go.ZA
namespace Go.ZA
open Go.Pl
open Go Go.Sw Go.Mo
def upd(f:Nat->aQ)(a:Nat)(b:aQ):Nat->aQ:=fun x=>if x=a then b else f x
structure Vw (m:Nat) (d:lZ) (f:Nat->aQ) (k:Nat):Prop where
 len:d.1.length=m
 C2:1<=m/\m<=200
 left:d.2.2= -1
 vc:d.2.1.length<=k
 lim:k<=800
 bz:∀p∈d.2.1,0<=p.1/\p.1<(m:Int)
 is:∀a,a<m->Fw (a:Int) d.2.1 (d.1.getD a [])=f a
variable {m k:Nat}{d:lZ}{f:Nat->aQ}
theorem Vw.err(h:Vw m d f k):nA d=0:=by
 unfold nA;have B:=h.len;have C:=h.C2;have D:=h.vc;have E:=h.lim;rw[WV (by omega),WV];intro z;obtain⟨p,A,u⟩:=aDd.1 z;have:=h.bz p A;unfold pZ at u;simp at u;omega
theorem Vw.read(h:Vw m d f k){a:Int}(h0:0<=a)(h1:a<m):iS d a=some (f a.toNat,none):=by
 have u:=h.vc;have z:=h.lim;have A:=h.len;rw[MY d a (by omega),XC h.err,WV (by omega),WV (by rw[h.left];decide)];have:=h.is a.toNat (by omega);rw[show ((a.toNat:Nat):Int)=a by omega] at this;rw[this]
theorem Yw(a x:Int)(b z:aQ)(l:List (Int×aQ)):Fw a (l++[(x,b)]) z=if x=a then b else Fw a l z:=by
 rw[Ac,Ac,aC5];rfl
theorem Vw.write(h:Vw m d f k){a:Int}{b:aQ}(h0:0<=a)(h1:a<m)(hk:k<800):
  rW d a b=some ((d.1,d.2.1++[(a,b)],-1),none)/\Vw m (d.1,d.2.1++[(a,b)],-1) (upd f a.toNat b) (k+1):=by
 have C:=h.vc;have D:=h.lim;have z:=h.len;have A:=h.C2;refine⟨?_,⟨z,A,rfl,by simp;omega,by omega,?_,?_⟩⟩
 ·rw[II d a b (by omega) (by omega),XC h.err,WV (by omega),WV (by omega),WV (by rw[h.left];decide),h.left];rfl
 ·intro p u;rcases N9.1 u with u | u
  ·exact h.bz p u
  ·simp at u;subst u;exact⟨h0,h1⟩
 ·intro x B;show Fw (x:Int) (d.2.1++[(a,b)]) (d.1.getD x [])=_;rw[Yw];unfold upd;by_cases e:x=a.toNat
  ·rw[XC e,XC (by omega)]
  ·rw[WV e,WV (by omega),h.is x B]
theorem Sz(d:lZ):zK d=d.2.1.foldl (fun acc p=>acc.set p.1.toNat p.2) d.1:=by
 unfold zK;have h:∀(l:List (Int×aQ)) (n:Nat) (s:List aQ),(l.zipIdx n).foldl (fun acc x=>acc.set x.1.1.toNat x.1.2) s=l.foldl (fun acc p=>acc.set p.1.toNat p.2) s:=by
  intro l
  induction l with
  |nil=>intro n s;rfl
  |cons p l u=>intro n s;rw[aCk,V6,V6,u]
 exact h _ _ _
theorem DX(a:Nat):∀(l:List (Int×aQ)) (s:List aQ),(∀p∈l,0<=p.1/\p.1<(s.length:Int))->(l.foldl (fun acc p=>acc.set p.1.toNat p.2) s).getD a []=l.foldl (fun acc p=>if p.1=(a:Int) then p.2 else acc) (s.getD a []):=by
 intro l
 induction l with
 |nil=>intro s _;rfl
 |cons p l A=>
  intro s h;have B:=h p ao;rw[V6,V6,A _ (fun q z=>by rw[aCs];exact h q (aj _ z))];congr 1;by_cases e:p.1=(a:Int)
  ·rw[XC e,e];have u:a<s.length:=by omega
   simp[R4,u]
  ·rw[WV e];have:¬p.1.toNat=a:=by omega
   simp[R4,this]
theorem Vw.flush(h:Vw m d f k):rX d=some ((zK d,[],-1),none)/\Vw m (zK d,[],-1) f 0:=by
 have C:=h.vc;have D:=h.lim;have z:=h.len;have A:=h.C2;refine⟨?_,⟨by show (zK d).length=m;rw[Yu,z],A,rfl,YZ _,by omega,fun p u=>by simp at u,?_⟩⟩
 ·rw[IH d (by omega) (by omega),XC h.err,WV (by rw[h.left];decide),h.left];rfl
 ·intro a B;show Fw (a:Int) [] ((zK d).getD a [])=f a;rw[Ac];show (zK d).getD a []=f a;rw[Sz,DX a _ _ (fun p u=>by rw[z];exact h.bz p u),<-Ac,h.is a B]
theorem Vw.X9(h:Vw m d f k)(n:Int){a:Int}{b:aQ}(h0:0<=a)(h1:a<m)(hk:k<800):
  ∃d',eD n d a b=some (none,n,d')/\Vw m d' (upd f a.toNat b) (k+1):=by
 obtain⟨e,v⟩:=h.write (b:=b) h0 h1 hk;refine⟨_,?_,v⟩;unfold eD;rw[e];rfl
theorem Vw.jr(h:Vw m d f k)(n:Int):∃d',eV n d=some (none,n,d')/\Vw m d' f 0:=by
 obtain⟨e,v⟩:=h.flush;refine⟨_,?_,v⟩;unfold eV;rw[e];rfl
end Go.ZA
namespace Go.ZA
open Go.Pl
open Go Go.Sw Go.Mo
abbrev MZ:=Option Int×Int×lZ
inductive qb {Q:Type} (F:Q->Int->lZ->Option MZ) (n:Int):List Q->lZ->lZ->Prop
 |nil {d:lZ}:qb F n [] d d
 |cons {q:Q} {l:List Q} {d d1 d2:lZ}:F q n d=some (none,n,d1)->qb F n l d1 d2->qb F n (q::l) d d2
theorem qb.append{Q:Type}{F:Q->Int->lZ->Option MZ}{n:Int}{l l':List Q}{d d1 d2:lZ}(h:qb F n l d d1)(k:qb F n l' d1 d2):qb F n (l++l') d d2:=by
 induction h with
 |nil=>exact k
 |cons e _ u=>exact .cons e (u k)
theorem BO{Q:Type}{F:Q->Int->lZ->Option MZ}{n:Int}{xs:List Q}{d d2:lZ}(h:qb F n xs d d2)(hl:xs.length<=100000):
  lp (β:=Int×lZ) (fun (WY:Int×Int×lZ)=>
  bif (cm .lss WY.1 (xs.length:Int)) then
   (Sw.idx xs WY.1).bind fun D7=>
    (F D7 WY.2.1 WY.2.2).bind fun v20=>
     bif (Option.isSome v20.1) then
      some (.done (.ret (v20.1,v20.2.1,v20.2.2)))
     else
      some (.next ((ar .add .i64 WY.1 (1:Int)),v20.2.1,v20.2.2))
  else
   some (.done (.WT (WY.2.1,WY.2.2)))
  ) ((0:Int),n,d) (fun (n5:Int×lZ)=>some ((none:Option Int),n5.1,n5.2))=some (none,n,d2):=by
 generalize YN:(fun (WY:Int×Int×lZ)=>
  bif (cm .lss WY.1 (xs.length:Int)) then
   (Sw.idx xs WY.1).bind fun D7=>
    (F D7 WY.2.1 WY.2.2).bind fun v20=>
     bif (Option.isSome v20.1) then
      some (Step.done (Ex.ret (v20.1,v20.2.1,v20.2.2)))
     else
      some (Step.next ((ar .add .i64 WY.1 (1:Int)),v20.2.1,v20.2.2))
  else
   some (Step.done (Ex.WT (WY.2.1,WY.2.2))))=step
 have E:∀(A u:List Q) (d:lZ) (f:Nat),xs=u++A->qb F n A d d2->A.length<f->loop step f ((u.length:Int),n,d)=some (.WT (n,d2)):=by
  intro A
  induction A with
  |nil=>
   intro u d f z B C;obtain⟨f,rfl⟩:∃f',f=f'+1:=⟨f - 1,by simp at C;omega⟩
   rw[ai] at z;cases B;have:step ((u.length:Int),n,d2)=some (.done (.WT (n,d2))):=by rw[<-YN,z];simp only[dT,pF]
   simp[loop,this]
  |cons q A H=>
   intro u d f z B C;obtain⟨f,rfl⟩:∃f',f=f'+1:=⟨f - 1,by simp at C;omega⟩
   cases B with
   |cons e B=>
    rename_i D;have:step ((u.length:Int),n,d)=some (.next (((u.length+1:Nat):Int),n,D)):=by
     rw[<-YN];simp only[kL z,XX,jZ z,cM,e,j7,pF];rw[u6 (by rw[z] at hl;simp at hl;omega)]
    have G:=H (u++[q]) D f (by rw[z];simp) B (by simp at C;omega);simp only[loop,this];simpa using G
 have:=E xs [] d fK rfl h (by unfold fK;omega);unfold lp;simp only[X3] at this;rw[show ((0:Int),n,d)=(((0:Nat):Int),n,d) from rfl,this]
variable {m k:Nat}{d:lZ}{f:Nat->aQ}
def RW(b:Int):aQ:=[b]++List.replicate 7 (0:Int)
theorem Vw.aFs(h:Vw m d f k){n:Nat}(hn:n+1<m)(b:Int)(hk:k<800):
  ∃d',fY (n:Int) d b=some (none,(n:Int),d')/\Vw m d' (upd f (n+1) (RW b)) 0:=by
 have D:=h.C2;obtain⟨d1,u,B⟩:=h.X9 (n:Int) (a:=((n+1:Nat):Int)) (b:=RW b) (by omega) (by omega) hk;obtain⟨d2,C,z⟩:=B.jr (n:Int);rw[show (((n+1:Nat):Int)).toNat=n+1 from rfl] at z;refine⟨d2,?_,z⟩;have A:qb lE (n:Int) ([(.inl ((),((),b)):dL),(.inr ((),()):dL)]:(List dL)) d d2:=by
  refine .cons (d1:=d1) ?_ (.cons C .nil);show iT b (n:Int) d=_;unfold iT;rw[u6 (by omega)];unfold RW at u;rw[u];rfl
 unfold fY gJ;rw[BO A (by simp)];rfl
end Go.ZA
namespace Go.ZA
open Go.Pl
open Go Go.Sw Go.Mo
theorem BP(n:Nat):IntKind.wrap .u8 (n:Int)=((n % 256:Nat):Int):=by
 show (Int.emod (n:Int) _)=_;rfl
theorem DY(n c:Nat)(hc:c<=64):sh .shr .i64 (n:Int) (c:Int)=((n / 2 ^ c:Nat):Int):=by
 show Int.fdiv (n:Int) (2 ^ min ((c:Nat):Int).toNat 64)=_;rw[p6,rk hc,wq _ (aEe (aEz (by decide)))];push_cast;rfl
theorem DZ{n c:Nat}(hn:n<256)(hc:c<=24):sh .shl .i64 (n:Int) (c:Int)=((n*2 ^ c:Nat):Int):=by
 show IntKind.wrap .i64 ((n:Int)*2 ^ min ((c:Nat):Int).toNat 64)=_;rw[p6,rk (by omega)];have h:2 ^ c<=2 ^ 24:=aEb (by decide) hc;have u:n*2 ^ c<=255*2 ^ 24:=aCu (by omega) h;have e:(n:Int)*2 ^ c=((n*2 ^ c:Nat):Int):=by push_cast;rfl
 rw[e,wrap_i64 (by omega)]
theorem orI{a b:Nat}(ha:a<4611686018427387904)(hb:b<4611686018427387904):ar .or .i64 (a:Int) (b:Int)=((a ||| b:Nat):Int):=by
 have h:a ||| b<2 ^ 62:=aD3 (by simpa using ha) (by simpa using hb)
 show IntKind.wrap .i64 ((BitVec.ofInt 64 (a:Int) ||| BitVec.ofInt 64 (b:Int)).toNat:Int)=_;simp only[sC,BitVec.toNat_or,aB8];rw[R5 (a:=a) (by omega),R5 (a:=b) (by omega)];exact wrap_i64 (by omega)
theorem orP{x y c:Nat}(hy:y<2 ^ c):x*2 ^ c ||| y=x*2 ^ c+y:=by
 have:=aEc hy x;rw[Nat.shiftLeft_eq] at this;exact this.symm
def kU(v:Nat):List Int:=[((v / 16777216 % 256:Nat):Int),((v / 65536 % 256:Nat):Int),((v / 256 % 256:Nat):Int),((v % 256:Nat):Int)]
theorem o8(v:Nat):kD (v:Int)=some (kU v++List.replicate 4 (0:Int)):=by
 unfold kD kU;have h:=DY v 24 (by decide);have u:=DY v 16 (by decide);have z:=DY v 8 (by decide);rw[show ((24:Nat):Int)=24 from rfl] at h;rw[show ((16:Nat):Int)=16 from rfl] at u;rw[show ((8:Nat):Int)=8 from rfl] at z;rw[h,u,z,BP,BP,BP,BP]
theorem IJ{b3 b2 b1 b0:Nat}(h3:b3<256)(h2:b2<256)(h1:b1<256)(h0:b0<256)(r:List Int):
  gP ((b3:Int)::(b2:Int)::(b1:Int)::(b0:Int)::r)=some ((b3*16777216+b2*65536+b1*256+b0:Nat):Int):=by
 have A:Sw.idx ((b3:Int)::(b2:Int)::(b1:Int)::(b0:Int)::r) (0:Int)=some (b3:Int):=rfl;have B:Sw.idx ((b3:Int)::(b2:Int)::(b1:Int)::(b0:Int)::r) (1:Int)=some (b2:Int):=rfl;have C:Sw.idx ((b3:Int)::(b2:Int)::(b1:Int)::(b0:Int)::r) (2:Int)=some (b1:Int):=rfl;have D:Sw.idx ((b3:Int)::(b2:Int)::(b1:Int)::(b0:Int)::r) (3:Int)=some (b0:Int):=rfl;unfold gP;simp only[A,B,C,D,cM];have h:=DZ h3 (show 24<=24 by decide);have u:=DZ h2 (show 16<=24 by decide);have z:=DZ h1 (show 8<=24 by decide);rw[show ((24:Nat):Int)=24 from rfl] at h;rw[show ((16:Nat):Int)=16 from rfl] at u;rw[show ((8:Nat):Int)=8 from rfl] at z;rw[h,u,z,orI (by omega) (by omega)];rw[orP (x:=b3) (c:=24) (y:=b2*2 ^ 16) (by omega),orI (by omega) (by omega)];rw[show b3*2 ^ 24+b2*2 ^ 16=(b3*256+b2)*2 ^ 16 by omega,orP (c:=16) (y:=b1*2 ^ 8) (by omega),orI (by omega) (by omega)];rw[show (b3*256+b2)*2 ^ 16+b1*2 ^ 8=((b3*256+b2)*256+b1)*2 ^ 8 by omega,orP (c:=8) (y:=b0) (by omega)]
 try (congr 2;omega)
theorem Ew{v:Nat}(h:v<=2147483647)(r:List Int):gP (kU v++r)=some (v:Int):=by
 show gP (((v / 16777216 % 256:Nat):Int)::((v / 65536 % 256:Nat):Int)::((v / 256 % 256:Nat):Int)::((v % 256:Nat):Int)::r)=_;rw[IJ (by omega) (by omega) (by omega) (by omega)];congr 2;omega
end Go.ZA
namespace Go.ZA
open Go.Pl
open Go Go.Sw Go.Mo
theorem Yx{α A B β γ:Type}{step:α->Option (Step α (Ex β γ))}{l:List A}{k:β->Option γ}(st:Nat->B->α)(I:List A->B->Prop)(fin:B->β)(ZF:B)(hf:l.length<fK)(h0:I [] ZF)
  (hs:∀pre x rest acc,l=pre++x::rest->I pre acc->∃YB,step (st pre.length acc)=some (.next (st (pre.length+1) YB))/\I (pre++[x]) YB)
  (he:∀acc,I l acc->step (st l.length acc)=some (.done (.WT (fin acc)))):∃acc,lp step (st 0 ZF) k=k (fin acc)/\I l acc:=by
 obtain⟨a,h,u⟩:=IE (k:=k) st I fin ZF hf h0 hs he;exact⟨a,u,h⟩
abbrev QD:=List (Nat×aQ)
def Jn(f:Nat->aQ)(l:QD):Nat->aQ:=l.foldl (fun f p=>upd f p.1 p.2) f
theorem Jo(f:Nat->aQ)(l:QD)(p:Nat×aQ):Jn f (l++[p])=upd (Jn f l) p.1 p.2:=by unfold Jn;rw[aC5];rfl
theorem Vk(f:Nat->aQ){n:Nat}(l:QD)(h:∀p∈l,p.1<=n){a:Nat}(ha:n<a):Jn f l a=f a:=by
 unfold Jn
 induction l generalizing f with
 |nil=>rfl
 |cons p l z=>
  rw[V6,z _ (fun q u=>h q (aj _ u))];have:=h p ao;unfold upd;rw[WV (by omega)]
variable {m k n:Nat}{d:lZ}{f:Nat->aQ}
structure Laid (n:Nat) (f:Nat->aQ) (l:QD):Prop where
 cnt:∃r,f (n+2)=kU l.length++r
 put:∀i p,l[i]? =some p->(∃r,f (n+3+2*i)=kU p.1++r)/\f (n+4+2*i)=p.2
theorem Vw.aHr(h:Vw m d f k){l:QD}(hl:Laid n f l)(hm:m=3*n+5)(hn:l.length<=n+1)(hp:∀p∈l,p.1<=n)(hk:k+l.length<=800):
  ∃d',gS (n:Int) d=some (none,(n:Int),d')/\Vw m d' (Jn f l) (k+l.length):=by
 have R:=h.C2;unfold gS;have F:ar .add .i64 (n:Int) (2:Int)=((n+2:Nat):Int):=by rw[j5 (by omega)];push_cast;rfl
 rw[F,h.read (by omega) (by omega),cM,p6];obtain⟨M,N⟩:=hl.cnt;have ev:gP (f (n+2))=some (l.length:Int):=by rw[N];exact Ew (by omega) M
 refine Yx (l:=l) (fun i d=>((none:Option Int),(i:Int),(n:Int),d)) (fun u d=>Vw m d (Jn f u) (k+u.length)) (fun d=>((none:Option Int),(n:Int),d)) d (Gn (n:=1000) (by omega) (by decide)) h ?_ ?_
 ·intro u p U d z A;have S:u.length<l.length:=by rw[z];simp
  have G:l[u.length]? =some p:=by rw[z];simp
  obtain⟨⟨r,O⟩,P⟩:=hl.put _ _ G;have B:∀q∈u,q.1<=n:=fun q L=>hp q (by rw[z];exact aDp _ L);have T:p.1<=n:=hp p (by rw[z];simp);have H:ar .add .i64 (ar .add .i64 (n:Int) (3:Int)) (ar .mul .i64 (2:Int) (u.length:Int))=((n+3+2*u.length:Nat):Int):=by
   rw[show (2:Int)=((2:Nat):Int) from rfl,Ia (by omega),j5 (m:=(n:Int)) (by omega),j5 (by push_cast;omega)];push_cast;rfl
  have I:ar .add .i64 (ar .add .i64 (n:Int) (4:Int)) (ar .mul .i64 (2:Int) (u.length:Int))=((n+4+2*u.length:Nat):Int):=by
   rw[show (2:Int)=((2:Nat):Int) from rfl,Ia (by omega),j5 (m:=(n:Int)) (by omega),j5 (by push_cast;omega)];push_cast;rfl
  have C:=A.read (a:=((n+3+2*u.length:Nat):Int)) (by omega) (by omega);have D:=A.read (a:=((n+4+2*u.length:Nat):Int)) (by omega) (by omega);rw[p6,Vk f u B (by omega),O] at C;rw[p6,Vk f u B (by omega),P] at D;have K:gP (kU p.1++r)=some (p.1:Int):=Ew (by omega) r;obtain⟨d',Q,E⟩:=A.X9 (n:Int) (a:=(p.1:Int)) (b:=p.2) (by omega) (by omega) (by omega);refine⟨d',?_,?_⟩
  ·simp only[iv,XX,ev,cM,kL z,H,I,C,D,jp,K,Q];rw[u6 (by omega)]
  ·rw[Jo,sM,aCw];rw[p6] at E;exact E
 ·intro d A;simp only[iv,XX,ev,cM,dT,pF]
end Go.ZA
namespace Go.ZA
open Go.Pl
open Go Go.Sw Go.Mo
variable {m k n:Nat}{d:lZ}{f:Nat->aQ}
theorem Yy(x:Int×aQ)(d:lZ):jD x (some ((n:Int),d))=some (pZ n x):=by
 unfold jD pZ;rw[cl];by_cases h:x.1<0
 ·simp[h]
 ·simp[h,L4]
theorem Ta(l:List (Int×aQ))(d:lZ)(hl:l.length<=1000000):bY l (some ((n:Int),d))=some (l.any (pZ n)):=by
 unfold bY cS;rw[show (0:Int)=(fun (i:Nat)=>(i:Int)) 0 from rfl];rw[Sx (l:=l) (fun (i:Nat)=>(i:Int)) (pZ n) (fun i=>(i:Int)) () (Gn hl (by decide))]
 ·rw[Ks];cases h:l.findIdx? (pZ n) with
  |none=>simp[L4]
  |some j=>simp[L4]
 ·intro u x z h;simp only[kL h,XX,jZ h,cM,Yy];rw[u6 (by rw[h] at hl;simp at hl;omega)];cases pZ n x<;>rfl
 ·simp only[dT,pF]
abbrev Ns:=List (Int×aQ)
def VI(i:Nat)(p:Int×aQ):aF:= .inr (.inl ((),((),((i:Int),p))))
def VJ(i:Nat)(p:Int×aQ):aF:= .inr (.inr (.inl ((),((),((i:Int),p)))))
def Bp:Nat->Ns->List aF
 |_,[]=>[]
 |i,p::l=>VI i p::VJ i p::Bp (i+1) l
theorem Vl(p:Int×aQ):∀(l:Ns) (i:Nat),Bp i (l++[p])=Bp i l++[VI (i+l.length) p,VJ (i+l.length) p]:=by
 intro l
 induction l with
 |nil=>intro i;rfl
 |cons q l h=>intro i;simp only[dk,Bp,h,D9];rw[show i+1+l.length=i+(l.length+1) by omega]
theorem Gq:∀(l:Ns) (i:Nat),(Bp i l).length=2*l.length:=by
 intro l
 induction l with
 |nil=>intro i;rfl
 |cons q l h=>intro i;simp only[Bp,D9,h];omega
theorem NA(hm:m=3*n+5)(hn:n<=32):∀(rest:Ns) (i:Nat) (d:lZ) (g:Nat->aQ) (k:Nat),Vw m d g k->(∀p∈rest,0<=p.1/\p.1<=n)->i+rest.length<=n+1->k+2*rest.length<=800->
  ∃d' g',qb iG (n:Int) (Bp i rest) d d'/\Vw m d' g' (k+2*rest.length)/\(∀x,x<n+3+2*i->g' x=g x)/\
   ∀j p,rest[j]? =some p->(∃r,g' (n+3+2*(i+j))=kU p.1.toNat++r)/\g' (n+4+2*(i+j))=p.2:=by
 intro rest
 induction rest with
 |nil=>intro i d g k h _ _ _;exact⟨d,g,.nil,h,fun _ _=>rfl,fun j p u=>by simp at u⟩
 |cons p rest R=>
  intro i d g k h C I K;have S:=C p ao;simp only[D9] at I K;obtain⟨d1,M,D⟩:=h.X9 (n:Int) (a:=((n+3+2*i:Nat):Int)) (b:=kU p.1.toNat++List.replicate 4 (0:Int)) (by omega) (by omega) (by omega);obtain⟨E,N,z⟩:=D.X9 (n:Int) (a:=((n+4+2*i:Nat):Int)) (b:=p.2) (by omega) (by omega) (by omega);rw[p6] at D z;rw[p6] at z;obtain⟨d',g',O,P,A,Q⟩:=R (i+1) E _ _ z (fun q L=>C q (aj _ L)) (by omega) (by omega);have F:ar .add .i64 (ar .add .i64 (n:Int) (3:Int)) (ar .mul .i64 (2:Int) (i:Int))=((n+3+2*i:Nat):Int):=by
   rw[show (2:Int)=((2:Nat):Int) from rfl,Ia (by omega),j5 (m:=(n:Int)) (by omega),j5 (by push_cast;omega)];push_cast;rfl
  have G:ar .add .i64 (ar .add .i64 (n:Int) (4:Int)) (ar .mul .i64 (2:Int) (i:Int))=((n+4+2*i:Nat):Int):=by
   rw[show (2:Int)=((2:Nat):Int) from rfl,Ia (by omega),j5 (m:=(n:Int)) (by omega),j5 (by push_cast;omega)];push_cast;rfl
  refine⟨d',g',.cons (d1:=d1) ?_ (.cons (d1:=E) ?_ O),by rw[show k+2*(p::rest).length=k+1+1+2*rest.length by simp;omega];exact P,?_,?_⟩
  ·show gW (i:Int) p (n:Int) d=_;unfold gW;have H:p.1=((p.1.toNat:Nat):Int):=by omega
   have B:=o8 p.1.toNat;rw[<-H] at B;rw[B,cM,F,M];rfl
  ·show gX (i:Int) p (n:Int) d1=_;unfold gX;rw[G,N];rfl
  ·intro x T;rw[A x (by omega)];unfold upd;rw[WV (by omega),WV (by omega)]
  ·intro j q u;cases j with
   |zero=>
    simp at u;subst u;rw[show i+0=i from rfl,A _ (by omega),A _ (by omega)];unfold upd;rw[WV (by omega),XC rfl,XC rfl];exact⟨⟨_,rfl⟩,rfl⟩
   |succ j=>
    simp at u;have:=Q j q u;rw[show i+(j+1)=i+1+j by omega];exact this
end Go.ZA
namespace Go.ZA
open Go.Pl
open Go Go.Sw Go.Mo
variable {m k n:Nat}{d:lZ}{f:Nat->aQ}
theorem NB{f g:Nat->aQ}{x:Nat}(l:QD)(h:f x=g x):Jn f l x=Jn g l x:=by
 unfold Jn
 induction l generalizing f g with
 |nil=>exact h
 |cons p l u=>
  rw[V6,V6];apply u;unfold upd;rw[h]
def Dl(l:Ns):QD:=l.map (fun p=>(p.1.toNat,p.2))
theorem Ib(v:Nat):(kU v).length=4:=rfl
theorem EA(h:Vw m d f 0)(hm:m=3*n+5)(jj:1<=n)(hn:n<=32)(YK:Ns){a b:Nat}(hl:YK.length<=n)(hp:∀p∈YK,0<=p.1/\p.1<n)(ha:a<=2147483647)(hb:b<=2147483647):
  ∃d' f',cZ (n:Int) d YK (a:Int) (b:Int)=some (none,(n:Int),d')/\Vw m d' f' 0/\(∀x,x<=n->f' x=Jn f (Dl (YK++[((n:Int),kU a++kU b)])) x)/\f' (n+1)=RW 0:=by
 have L:YK.any (pZ n)=false:=by
  rw[aEq];intro p u;have:=hp p u;unfold pZ;simp;omega
 generalize hv:YK++[((n:Int),kU a++kU b)]=j9;have F:j9.length=YK.length+1:=by rw[<-hv];simp
 have G:∀p∈j9,0<=p.1/\p.1<=n:=by
  intro p u;rw[<-hv] at u;rcases N9.1 u with u | u
  ·have:=hp p u;omega
  ·simp at u;subst u;exact⟨by simp,by simp⟩
 have M:ar .add .i64 (n:Int) (2:Int)=((n+2:Nat):Int):=by rw[j5 (by omega)];push_cast;rfl
 obtain⟨d1,s1,I⟩:=h.X9 (n:Int) (a:=((n+2:Nat):Int)) (b:=kU j9.length++List.replicate 4 (0:Int)) (by omega) (by omega) (by omega);rw[p6] at I;obtain⟨d2,g2,r2,w2,K,aa⟩:=NA hm hn j9 0 d1 _ _ I G (by omega) (by omega);obtain⟨d3,s3,v3⟩:=w2.jr (n:Int);obtain⟨d4,s4,v4⟩:=v3.aFs (n:=n) (by omega) 1 (by omega);have B:(Dl j9).length=j9.length:=by unfold Dl;simp
 have N:Laid n (upd g2 (n+1) (RW 1)) (Dl j9):=by
  constructor
  ·refine⟨List.replicate 4 (0:Int),?_⟩;unfold upd;rw[WV (by omega),K _ (by omega)];unfold upd;rw[XC rfl,B]
  ·intro i p A;unfold Dl at A;rw[ly] at A;cases u:j9[i]? with
   |none=>rw[u] at A;cases A
   |some q=>
    rw[u] at A;obtain rfl:=pT A;have:=aa i q u;rw[aC4] at this;unfold upd;rw[WV (by omega),WV (by omega)];exact this
 have O:∀p∈Dl j9,p.1<=n:=by
  intro p u;unfold Dl at u;obtain⟨q,ab,rfl⟩:=dj.1 u;have:=G q ab;show q.1.toNat<=n;omega
 obtain⟨d5,s5,v5⟩:=v4.aHr N hm (by rw[B];omega) O (by rw[B];omega);obtain⟨d6,s6,v6⟩:=v5.jr (n:Int);obtain⟨d7,s7,v7⟩:=v6.aFs (n:=n) (by omega) 0 (by omega);refine⟨d7,_,?_,v7,?_,by unfold upd;rw[XC rfl]⟩
 ·unfold cZ;rw[cg,cl,cg];rw[m6 (show¬((YK.length:Int)>n) by omega),pF];rw[m6 (show¬(min (a:Int) (b:Int)<0) by omega),pF];rw[m6 (show¬(max (a:Int) (b:Int)>2147483647) by omega),pF];rw[Ta YK d (by omega),L,cM,cM,pF,o8,o8,cM,cM];have P:bV YK=some YK:=by unfold bV;rw[VU _ _ (by simp;omega)];rfl
  have Q:Sw.X8 (kU a++List.replicate 4 (0:Int)) (0:Int) (4:Int) (4:Int)=some (kU a):=by unfold Sw.X8 Sw.sub kU;simp
  have R:Sw.sub (kU b++List.replicate 4 (0:Int)) (0:Int) (4:Int)=some (kU b):=by unfold Sw.sub kU;simp
  have S:Sw.app (kU a) (kU b)=some (kU a++kU b):=VU _ _ (by rw[Ib,Ib];decide);have T:Sw.w9 8 (kU a++kU b)=some (kU a++kU b):=by unfold Sw.w9 kU;simp
  have U:Sw.app YK [((n:Int),kU a++kU b)]=some j9:=by rw[VU _ _ (by simp;omega),hv]
  simp only[P,Q,R,S,T,U,cM];have V:qb iG (n:Int) (((.inl ((),((),j9)):aF)::Bp 0 j9)++([(.inr (.inr (.inr (.inl ((),())))):aF),(.inr (.inr (.inr (.inr (.inl ((),()))))):aF),(.inr (.inr (.inr (.inr (.inr (.inl ((),())))))):aF),(.inr (.inr (.inr (.inr (.inr (.inr (.inl ((),()))))))):aF),(.inr (.inr (.inr (.inr (.inr (.inr (.inr ((),()))))))):aF)]:(List aF))) d d7:=by
   refine qb.append (d1:=d2) (.cons (d1:=d1) ?_ r2) (.cons s3 (.cons (d1:=d4) ?_ (.cons s5 (.cons s6 (.cons (d1:=d7) ?_ .nil)))))
   ·show gV j9 (n:Int) d=_;unfold gV;rw[o8,cM,M,s1];rfl
   ·show gY (n:Int) d3=_;unfold gY;rw[s4];rfl
   ·show gZ (n:Int) d6=_;unfold gZ;rw[s7];rfl
  obtain⟨acc,e,rfl⟩:=Yx (step:=fun (z:Int×(List aF))=>
    bif (cm .lss z.1 (j9.length:Int)) then
     (Sw.idx j9 z.1).bind fun H=>
      (Sw.app z.2 ([(.inr (.inl ((),((),(z.1,H)))):aF),(.inr (.inr (.inl ((),((),(z.1,H))))):aF)]:(List aF))).bind fun X=>
       some (Step.next ((ar .add .i64 z.1 (1:Int)),X))
    else
     some (Step.done (Ex.WT (β:=MZ) z.2))) (k:=fun (vt:(List aF))=>
    (Sw.app vt ([(.inr (.inr (.inr (.inl ((),())))):aF),(.inr (.inr (.inr (.inr (.inl ((),()))))):aF),(.inr (.inr (.inr (.inr (.inr (.inl ((),())))))):aF),(.inr (.inr (.inr (.inr (.inr (.inr (.inl ((),()))))))):aF),(.inr (.inr (.inr (.inr (.inr (.inr (.inr ((),()))))))):aF)]:(List aF))).bind fun vw=>
     (eS vw (n:Int) d).bind fun C=>
      some (C.1,C.2.1,C.2.2)) (l:=j9) (fun i acc=>((i:Int),acc)) (fun D acc=>acc=(.inl ((),((),j9)):aF)::Bp 0 D) (fun acc=>acc) [(.inl ((),((),j9)):aF)] (Gn (n:=1000) (by omega) (by decide)) rfl (by
    rintro D x ac acc E rfl;have XI:D.length<=1000:=by rw[E] at F;simp at F;omega
    refine⟨_,?_,rfl⟩;simp only[kL E,XX,jZ E,cM];rw[VU _ _ (by simp[Gq];omega),cM,u6 (by omega),Vl];rw[aC4]
    rfl) (by
    rintro acc rfl
    simp only[dT,pF])
  refine e.trans ?_;rw[VU _ _ (by simp[Gq];omega),cM];unfold eS;rw[BO V (by simp[Gq];omega)];rfl
 ·intro x hx;unfold upd;rw[WV (by omega)];apply NB;rw[WV (by omega),K x (by omega)];unfold upd;rw[WV (by omega)]
end Go.ZA
namespace Go.ZA
open Go.Pl
open Go Go.Sw Go.Mo
def oH(d:lZ)(blocks:List aQ)(a b:Nat):Prop:=
 ∃f,Vw (3*blocks.length+5) d f 0/\(∀x y,blocks[x]? =some y->f x=y)/\f blocks.length=kU a++kU b/\f (blocks.length+1)=RW 0
variable {d:lZ}{blocks:List aQ}{a b:Nat}
theorem QE(h:oH d blocks a b){x:Nat}{y:aQ}(hx:blocks[x]? =some y):kK ((blocks.length:Int),d) (x:Int)=some (y,none):=by
 obtain⟨f,v,u,_,_⟩:=h;have z:x<blocks.length:=(aCb.1 hx).1;unfold kK;rw[cl,m6 (show¬((x:Int)<0) by omega),L4,m6 (show¬((x:Int)>=(blocks.length:Int)) by omega)];show (iS d (x:Int)).bind _=_;rw[v.read (by omega) (by omega),p6,u x y hx];rfl
theorem xV(h:oH d blocks a b):gD ((blocks.length:Int),d)=some (blocks,none):=by
 have B:3*blocks.length+5<=200:=by obtain⟨f,v,_⟩:=h;exact v.C2.2
 unfold gD
 obtain⟨acc,e,rfl⟩:=Yx (step:=fun (u:Int×(List aQ))=>
  bif (cm .lss u.1 (blocks.length:Int)) then
   (kK ((blocks.length:Int),d) u.1).bind fun z=>
    bif (Option.isSome z.2) then
     some (Step.done (Ex.ret (([]:(List aQ)),z.2)))
    else
     (Sw.app u.2 ([z.1]:(List aQ))).bind fun E=>
      some (Step.next ((ar .add .i64 u.1 (1:Int)),E))
  else
   some (Step.done (Ex.WT u.2))) (k:=fun (F:(List aQ))=>some (F,(none:Option Int))) (l:=blocks) (fun i acc=>((i:Int),acc)) (fun C acc=>acc=C) (fun acc=>acc) [] (Gn (n:=1000) (by omega) (by decide)) rfl (by
   rintro C x H acc A rfl;have G:acc.length<=1000:=by rw[A] at B;simp at B;omega
   refine⟨_,?_,rfl⟩;have D:=QE h (x:=acc.length) (y:=x) (by rw[A];simp);simp only[kL A,XX,D,cM,j7,pF]
   rw[VU _ _ (by simp;omega),cM,u6 (by omega)]) (by
   rintro acc rfl
   simp only[dT,pF])
 exact e
theorem Yz(h:oH d blocks a b)(ha:a<=2147483647)(hb:b<=2147483647):fZ ((blocks.length:Int),d)=some ((a:Int),(b:Int),none):=by
 obtain⟨f,v,_,C,_⟩:=h;unfold fZ;show (iS d (blocks.length:Int)).bind _=_;rw[v.read (by omega) (by omega),p6,C];have u:Sw.X8 (kU a++kU b) (4:Int) (8:Int) (8:Int)=some (kU b):=by unfold Sw.X8 Sw.sub kU;simp
 have z:Sw.sub (kU a++kU b) (0:Int) (4:Int)=some (kU a):=by unfold Sw.sub kU;simp
 have A:Sw.app (kU b) (kU a)=some (kU b++kU a):=VU _ _ (by rw[Ib,Ib];decide);have B:Sw.w9 8 (kU b++kU a)=some (kU b++kU a):=by unfold Sw.w9 kU;simp
 simp only[cM,j7,pF,Ew ha,Ew hb,u,z,A,B]
end Go.ZA
namespace Go.ZA
open Go.Pl
open Go Go.Sw Go.Mo
def Vm(n:Nat)(YK:Ns)(a b:Int):Int:=if YK.length>n then 2 else if a<0\/a>2147483647\/b<0\/b>2147483647 then 1 else if YK.any (pZ n) then 1 else 0
def sP(blocks:List aQ)(YK:Ns):List aQ:=YK.foldl (fun acc p=>acc.set p.1.toNat p.2) blocks
theorem Bq(YK:Ns):∀blocks:List aQ,(sP blocks YK).length=blocks.length:=by
 induction YK with
 |nil=>intro b;rfl
 |cons p l h=>intro b;unfold sP at*;rw[V6,h];simp
theorem Za(YK:Ns):∀(blocks:List aQ) (f:Nat->aQ),(∀p∈YK,0<=p.1/\p.1<(blocks.length:Int))->(∀x y,blocks[x]? =some y->f x=y)->∀x y,(sP blocks YK)[x]? =some y->Jn f (Dl YK) x=y:=by
 induction YK with
 |nil=>intro b f _ h;exact h
 |cons p l B=>
  intro b f z h;have C:=z p ao;unfold sP Dl Jn at*;rw[V6,H9,V6];refine B _ _ (fun q A=>by rw[aCs];exact z q (aj _ A)) ?_;intro x y u;unfold upd;by_cases e:x=p.1.toNat
  ·subst e;rw[aBz (by omega)] at u;rw[XC rfl];exact pT u
  ·rw[vh (by omega)] at u;rw[WV e];exact h x y u
variable {d:lZ}{blocks:List aQ}{a b:Nat}
theorem yX(h:oH d blocks a b)(h0:1<=blocks.length)(h1:blocks.length<=32)(YK:Ns)(x y:Int)(hc:Vm blocks.length YK x y=0):
  ∃(d':lZ) (x' y':Nat),x=(x':Int)/\y=(y':Int)/\x'<=2147483647/\y'<=2147483647/\(∀p∈YK,0<=p.1/\p.1<(blocks.length:Int))/\
   cZ (blocks.length:Int) d YK x y=some (none,(blocks.length:Int),d')/\oH d' (sP blocks YK) x' y':=by
 unfold Vm at hc;split at hc
 ·cases hc
 rename_i L;split at hc
 ·cases hc
 rename_i M;split at hc
 ·cases hc
 rename_i D;have u:∀p∈YK,0<=p.1/\p.1<(blocks.length:Int):=by
  intro p u;have A:¬pZ blocks.length p=true:=fun E=>D (aDd.2 ⟨p,u,E⟩);unfold pZ at A;simp at A;omega
 obtain⟨x',rfl⟩:∃x':Nat,x=(x':Int):=⟨x.toNat,by omega⟩
 obtain⟨y',rfl⟩:∃y':Nat,y=(y':Int):=⟨y.toNat,by omega⟩
 obtain⟨f,v,F,N,O⟩:=h;obtain⟨d',G,e,H,C,I⟩:=EA v rfl h0 h1 YK (a:=x') (b:=y') (by omega) u (by omega) (by omega);refine⟨d',x',y',rfl,rfl,by omega,by omega,u,e,G,by rw[Bq];exact H,?_,?_,by rw[Bq];exact I⟩
 ·intro i z B;have K:i<blocks.length:=by have:=(aCb.1 B).1;rwa [Bq] at this
  rw[C i (by omega)];unfold Dl;rw[aCr,H9,aD2,Jo];unfold upd;rw[WV (by simp;omega)];exact Za YK blocks f u F i z B
 ·rw[Bq,C _ (YZ _)];unfold Dl;rw[aCr,H9,aD2,Jo];unfold upd;rw[XC (by simp)]
end Go.ZA
namespace Go.ZA
open Go.Pl
open Go Go.Sw Go.Mo
theorem BR{n:Nat}(h0:1<=n)(h1:n<=32):rU (n:Int)=some (((3*n+5:Nat):Int),none):=by
 unfold rU;rw[cl,cg,m6 (show¬((n:Int)<1) by omega),m6 (show¬((n:Int)>32) by omega)];have h:ar .add .i64 (n:Int) (1:Int)=((n+1:Nat):Int):=u6 (by omega);have u:ar .mul .i64 (2:Int) ((n+1:Nat):Int)=((2*(n+1):Nat):Int):=by rw[show (2:Int)=((2:Nat):Int) from rfl,Ia (by omega)]
 have z:ar .add .i64 ((n+1:Nat):Int) (2:Int)=((n+1+2:Nat):Int):=by rw[j5 (by omega)];push_cast;rfl
 have A:ar .add .i64 ((n+1+2:Nat):Int) ((2*(n+1):Nat):Int)=((3*n+5:Nat):Int):=by rw[j5 (by omega)];push_cast;omega
 rw[h,u,z,A];rfl
theorem SQ{α:Type}(n:Nat)(z:α)(h:n<=1000):Sw.mk (n:Int) z=some (List.replicate n z):=by
 unfold Sw.mk;rw[XC (by omega)];simp
def fresh(n:Nat):lZ:=(List.replicate (3*n+5) aR,[],-1)
theorem EB{n:Nat}(h0:1<=n)(h1:n<=32):rC (n:Int)=some (fresh n,none):=by
 unfold rC;rw[BR h0 h1,cM];show (xU ((3*n+5:Nat):Int)).bind _=_;unfold xU;rw[cl,cg,m6 (show¬(((3*n+5:Nat):Int)<1) by omega),m6 (show¬(((3*n+5:Nat):Int)>200) by omega),SQ _ _ (by omega)];rfl
theorem Vw.none{m:Nat}{d:lZ}{f:Nat->aQ}(h:Vw m d f 0):d=(d.1,[],-1):=by
 have u:d.2.1=[]:=iw (by have:=h.vc;omega);have A:=h.left;obtain⟨x,y,z⟩:=d;simp only at u A;subst u;subst A;rfl
theorem Ra{d:lZ}{blocks:List aQ}{a b:Nat}(h:oH d blocks a b)(h0:1<=blocks.length)(h1:blocks.length<=32):mV d (blocks.length:Int)=some (some ((blocks.length:Int),d),none):=by
 obtain⟨f,v,_,_,E⟩:=h;have u:=v.none;have z:=v.len;unfold mV;rw[BR h0 h1,cM];simp only[j7,pF];rw[xA,cM,XC v.err,cn,cg];have A:d.2.1.length=0:=by rw[u];rfl
 rw[z,A,m6 (fun h=>h rfl)];simp only[j7,pF];rw[show decide (((0:Nat):Int)>0)=false from rfl,cM,pF];have B:aP d.1=some d.1:=by unfold aP;rw[VU _ _ (by simp;omega)];rfl
 rw[B,cM];have C:(d.1,([]:List (Int×aQ)),d.2.2)=d:=by rw[v.left];exact u.symm
 rw[C];have D:iU (blocks.length:Int) d=some (none,(blocks.length:Int),d):=by
  unfold iU;rw[u6 (by omega),v.read (by omega) (by omega),p6,E];rfl
 rw[D];rfl
theorem NC{d:lZ}{blocks:List aQ}{a b:Nat}(h:oH d blocks a b):lX ((blocks.length:Int),d)=some d:=by
 obtain⟨f,v,_⟩:=h;have u:=v.C2;have z:=v.len;have A:=v.vc;unfold lX aP bV;rw[VU _ _ (by simp;omega),VU _ _ (by simp;omega)];rfl
theorem Nt{n:Nat}(h1:n<=32):oH (fresh n) (List.replicate n aR) 0 0:=by
 refine⟨fun _=>aR,?_,?_,rfl,rfl⟩
 ·rw[px];refine⟨by unfold fresh;simp,by omega,rfl,YZ _,by decide,fun p u=>by simp[fresh] at u,fun a z=>?_⟩;unfold fresh;show Fw (a:Int) [] ((List.replicate (3*n+5) aR).getD a [])=aR;rw[Ac];show (List.replicate (3*n+5) aR).getD a []=aR;simp[R4,z]
 ·intro x y h;rw[aDw] at h;split at h
  ·exact pT h
  ·cases h
end Go.ZA
namespace Go.p7
open Go.Pl
open Go Go.Sw Go.Mo
abbrev pQ:=Int×aQ
abbrev Ep:=Int×List pQ
abbrev Bd:=Int×List pQ×List Ep×Bool
def YW(n:Int):Int->List pQ->Bool
 |_,[]=>true
 |last,x::l=>if x.1<=last\/x.1>=n then false else YW n x.1 l
def ND(n:Int)(last:Int)(x:pQ):Step Int (Ex Unit Bool):=if x.1<=last\/x.1>=n then .done (.ret false) else .next x.1
theorem BS(n:Int):∀(l:List pQ) (last:Int),yW (ND n) (fun _=> .WT ()) last l=bif YW n last l then .WT () else .ret false
 | [],_=>rfl
 |x::l,last=>by
  simp only[yW,ND,YW];by_cases h:x.1<=last\/x.1>=n
  ·simp only[XC h,pF]
  ·simp only[WV h];exact BS n l x.1
theorem Rb(l:List pQ)(n:Int)(hl:l.length<=1000000):lU l n=some (YW n (-1) l):=by
 unfold lU;rw[show ((-1:Int),(0:Int))=(fun (i:Nat) (a:Int)=>(a,(i:Int))) 0 (-1) from rfl];rw[Lv (l:=l) (fun (i:Nat) (a:Int)=>(a,(i:Int))) (fun _ _=>True) (ND n) (fun _=> .WT ()) (-1) (Gn hl (by decide)) trivial]
 ·rw[BS];cases YW n (-1) l<;>rfl
 ·intro A x B acc h _;refine⟨?_,fun _ _=>trivial⟩;simp only[kL h,XX,jZ h,cM,zy,L4,PA,u6 (show A.length<=4611686018427387904 by rw[h] at hl;simp at hl;omega),ND];by_cases u:x.1<=acc
  ·simp[u,Jc]
  ·by_cases z:x.1>=n
   ·simp[u,z,Jc]
   ·simp[u,z,Jc]
 ·intro acc _;simp only[dT,pF]
def Gr(n base:Int):Int->List Ep->Bool
 |_,[]=>true
 |i,e::l=>if YW n (-1) e.2=true/\e.1=base+i then Gr n base (i+1) l else false
def uO(b:Bd)(n:Int):Int:=
 if n<1\/n>32\/b.1<0\/b.1>2147483647 then 1 else if b.2.2.1.length>4 then 2
 else if YW n (-1) b.2.1=true/\¬(b.2.2.2=true/\b.2.2.1.length>0)/\(b.2.2.1.length:Int)<=b.1/\Gr n (b.1 - b.2.2.1.length+1) 0 b.2.2.1=true then 0 else 3
structure Sm (b:Bd):Prop where
 op:b.2.1.length<=1000000
 se:b.2.2.1.length<=1000000
 ep:∀e∈b.2.2.1,e.2.length<=1000000
theorem Ad{A:Type}{l pre rest:List A}{x:A}(h:l=pre++x::rest):x∈l:=by rw[h];simp
end Go.p7
namespace Go.p7
open Go.Pl
open Go Go.Sw Go.Mo
def opt(n:Int):Option Int:=if n=0 then none else some n
def LW(n base:Int):Int->List Ep->Bool
 |_,[]=>true
 |i,e::l=>if YW n (-1) e.2=true/\e.1=base+i/\1<=e.1 then LW n base (i+1) l else false
def SR(n base:Int)(i:Int)(e:Ep):Step Int (Ex Unit (Option Int)):=if YW n (-1) e.2=true/\e.1=base+i/\1<=e.1 then .next (i+1) else .done (.ret (some 3))
theorem IK(n base:Int):∀(l:List Ep) (i:Int),yW (SR n base) (fun _=> .WT ()) i l=bif LW n base i l then .WT () else .ret (some 3)
 | [],_=>rfl
 |e::l,i=>by
  simp only[yW,SR,LW];by_cases h:YW n (-1) e.2=true/\e.1=base+i/\1<=e.1
  ·simp only[XC h];exact IK n base l (i+1)
  ·simp only[WV h,pF]
theorem IL(n base:Int)(h:1<=base):∀(l:List Ep) (i:Int),0<=i->LW n base i l=Gr n base i l
 | [],_,_=>rfl
 |e::l,i,A=>by
  simp only[LW,Gr];by_cases u:YW n (-1) e.2=true/\e.1=base+i
  ·rw[XC u,XC ⟨u.1,u.2,by omega⟩];exact IL n base h l (i+1) (by omega)
  ·rw[WV u,WV fun z=>u ⟨z.1,z.2.1⟩]
theorem j3(b:Bd)(n:Int)(hb:Sm b):lI b n=some (opt (uO b n)):=by
 have H:=hb.se
 have Q:∀V:0<=b.1/\b.1<=2147483647,lp (β:=Unit) (fun (F:Int)=>
          bif (cm .lss F (b.2.2.1.length:Int)) then
           (Sw.idx b.2.2.1 F).bind fun N=>
            ((lU N.2 n).bind fun aa=>
             bif (!aa) then
              some true
             else
              bif (cm .neq N.1 (ar .add .i64 (ar .add .i64 (ar .sub .i64 b.1 (b.2.2.1.length:Int)) (1:Int)) F)) then
               some true
              else
               some (cm .lss N.1 (1:Int))).bind fun ab=>
             bif ab then
              some (.done (.ret (some (3:Int))))
             else
              some (.next (ar .add .i64 F (1:Int)))
          else
           some (.done (.WT ()))
          ) (0:Int) (fun (_:Unit)=>
         some (none:Option Int))=some (bif LW n (b.1 - b.2.2.1.length+1) 0 b.2.2.1 then none else some 3):=by
  intro V;show lp _ ((fun (i:Nat) (_:Int)=>(i:Int)) 0 0) _=_;rw[Lv (l:=b.2.2.1) (fun (i:Nat) (_:Int)=>(i:Int)) (fun B a=>a=(B.length:Int)) (SR n (b.1 - b.2.2.1.length+1)) (fun _=> .WT ()) 0 (Gn H (by decide)) rfl]
  ·rw[IK];cases LW n (b.1 - b.2.2.1.length+1) 0 b.2.2.1<;>rfl
  ·intro B x ac acc h X;subst X;have hp:B.length<=1000000:=by rw[h] at H;simp at H;omega
   refine⟨?_,fun YB G=>?_⟩
   ·simp only[kL h,XX,jZ h,cM,Rb x.2 n (hb.ep x (Ad h)),PA,u6 (show B.length<=4611686018427387904 by omega),SR,cn,cl];rw[O3 (by omega),j5 (m:=b.1 - (b.2.2.1.length:Int)) (by omega),j5 (by omega)];cases hr:YW n (-1) x.2 with
    |false=>simp[Jc]
    |true=>
     by_cases C:x.1=b.1 - (b.2.2.1.length:Int)+1+(B.length:Int)
     ·by_cases I:x.1<1
      ·have K:¬(1<=x.1):=by omega
       simp[<-C,I,K,Jc]
      ·have K:1<=x.1:=by omega
       simp[<-C,I,K,Jc]
     ·simp[C,Jc]
   ·simp only[SR] at G;split at G
    ·cases G;simp
    ·cases G
  ·intro acc _;simp only[dT,pF]
 unfold lI;simp only[Rb b.2.1 n hb.op,cM];simp only[cl,cg,PA,uO,aC2,opt];by_cases u:n<1
 ·simp[u]
 by_cases z:n>32
 ·simp[u,z]
 by_cases D:b.1<0
 ·simp[u,z,D]
 by_cases L:b.1>2147483647
 ·simp[u,z,D,L]
 have O:=Q ⟨by omega,by omega⟩;simp only[cl,PA,aC2] at O;by_cases P:(b.2.2.1.length:Int)>4
 ·have M:b.2.2.1.length>4:=by omega
  simp[u,z,D,L,P,M]
 have M:¬(b.2.2.1.length>4):=by omega
 simp only[u,z,D,L,P,M,l7,cM,D5,T3,aE1];cases hr:YW n (-1) b.2.1 with
 |false=>simp
 |true=>
  simp only[nm,T3,l7];have R:(b.2.2.1.length:Int)<=b.1->LW n (b.1 - b.2.2.1.length+1) 0 b.2.2.1=Gr n (b.1 - b.2.2.1.length+1) 0 b.2.2.1:=fun h=>IL n _ (by omega) _ 0 (by omega);have S:¬((b.2.2.1.length:Int)<=b.1)->LW n (b.1 - b.2.2.1.length+1) 0 b.2.2.1=false:=fun h=>by
   cases V3:b.2.2.1 with
   |nil=>rw[V3] at h;simp at h;omega
   |cons e l=>
    simp only[LW];rw[WV];rintro⟨_,C,I⟩;rw[V3] at h;omega
  by_cases A:b.2.2.2=true/\b.2.2.1.length>0
  ·have T:(b.2.2.1.length:Int)>0:=by omega
   simp[A.1,A.2,T]
  ·have U:(if b.2.2.2=true then some (decide ((b.2.2.1.length:Int)>0)) else some false:Option Bool)=some false:=by
    cases hbh:b.2.2.2 with
    |false=>simp
    |true=>simp[hbh] at A;simp[A]
   simp only[U,cM,T3,l7,O];by_cases E:(b.2.2.1.length:Int)<=b.1
   ·rw[R E];cases Gr n (b.1 - b.2.2.1.length+1) 0 b.2.2.1<;>simp[E,A]
   ·rw[S E];simp[E]
theorem r6(b:Bd)(hb:Sm b):nH b=some b:=by
 have B:=hb.op;have u:=hb.se;unfold nH gO;have z:∀l:List pQ,l.length<=1000000->bV l=some l:=fun l h=>by
  unfold bV;rw[VU [] l (by simp;omega)];rfl
 rw[z _ B,VU [] b.2.2.1 (by simp;omega)];simp only[cM,V7];show lp _ ((fun (i:Nat) (_:Unit)=>((i:Int),b.2.2.1)) 0 ()) _=_;rw[Lv (l:=b.2.2.1) (fun (i:Nat) (_:Unit)=>((i:Int),b.2.2.1)) (fun _ _=>True) (fun _ _=> .next ()) (fun _=> .WT b.2.2.1) () (Gn u (by decide)) trivial]
 ·have:∀l:List Ep,yW (D:=Ex (List Ep) Bd) (fun (_:Unit) (_:Ep)=>Step.next ()) (fun _=> .WT b.2.2.1) () l= .WT b.2.2.1:=by
   intro l;induction l with
   |nil=>rfl
   |cons x l C=>exact C
  rw[this];rfl
 ·intro A x F acc h _;have E:A.length<=1000000:=by rw[h] at u;simp at u;omega
  refine⟨?_,fun _ _=>trivial⟩;simp only[kL h,XX,jZ h,cM,z _ (hb.ep x (Ad h)),u6 (show A.length<=4611686018427387904 by omega),Jc,p6];rw[h];simp
 ·intro acc _;simp only[dT,pF]
theorem Ey(n a:Int):∀(l:List pQ) (last:Int),YW n last l=true->∃L1 L2,l=L1++L2/\(∀x∈L1,x.1<a)/\(∀x∈L2,a<=x.1)/\(L2.filter fun x=>x.1≠a)=(match L2 with | []=>[] | y::r=>if y.1=a then r else L2)
 | [],_,_=>⟨[],[],rfl,by simp,by simp,rfl⟩
 |x::l,last,h=>by
  simp only[YW] at h;split at h
  ·cases h
  ·by_cases C:x.1<a
   ·obtain⟨L1,L2,rfl,F,G,H⟩:=Ey n a l x.1 h;exact⟨x::L1,L2,rfl,fun y u=>by rcases q9.1 u with rfl | u;exact C;exact F y u,G,H⟩
   ·have D:∀(l:List pQ) (last:Int),YW n last l=true->∀y∈l,last<y.1:=by
     intro l
     induction l with
     |nil=>intro _ _ y u;simp at u
     |cons z l I=>
      intro last h y u;simp only[YW] at h;split at h
      ·cases h
      ·rename_i K;rcases q9.1 u with rfl | u
       ·omega
       ·have:=I z.1 h y u;omega
    have A:=D l x.1 h;refine⟨[],x::l,rfl,by simp,fun y u=>by rcases q9.1 u with rfl | u;omega;have:=A y u;omega,?_⟩;have E:(l.filter fun y=>decide (y.1≠a))=l:=aDa.2 fun y u=>by have:=A y u;simp;omega
    simp only[aD5,E];by_cases B:x.1=a
    ·simp[B]
    ·simp[B]
theorem ZD(n:Int):∀(l:List pQ) (last:Int),YW n last l=true->∀x∈l,last<x.1/\x.1<n
 | [],_,_,x,u=>by simp at u
 |y::l,last,h,x,u=>by
  simp only[YW] at h;split at h
  ·cases h
  ·rename_i z;rcases q9.1 u with rfl | u
   ·omega
   ·have:=ZD n l y.1 h x u;omega
theorem Zb(L1 L2:List pQ)(a:Int)(h1:∀x∈L1,x.1<a)(h2:∀x∈L2,a<=x.1)(hl:(L1++L2).length<=1000000)(hr:∀x∈L1++L2,-1000000000<=x.1/\x.1<=1000000000)(hab: -1000000000<=a/\a<=1000000000):
  bZ (L1++L2) a=some ((L1.length:Int),match L2 with | []=>false | y::_=>decide (y.1=a)):=by
 obtain⟨l,B⟩:∃l,l=L1++L2:=⟨_,rfl⟩
 rw[<-B] at hl hr ⊢;unfold bZ sX;have F:l.length=L1.length+L2.length:=by rw[B,sM]
 have G:∀x∈l,ar .sub .i64 x.1 a=x.1 - a:=fun x C=>O3 (by have:=hr x C;omega)
 obtain⟨y,rfl,Q⟩:=MW (k:=fun (E:Int)=>
 (bif (cm .lss E (l.length:Int)) then
  (Sw.idx l E).bind fun L=>
   (some (ar .sub .i64 L.1 a)).bind fun M=>
    some (cm .eql M (0:Int))
 else
  some false).bind fun N=>
  some (E,N)) (step:=fun (u:Int×Int)=>
  bif (cm .lss u.1 u.2) then
   (Sw.idx l (IntKind.wrap .i64 (sh .shr .u64 (IntKind.wrap .u64 (ar .add .i64 u.1 u.2)) (1:Int)))).bind fun O=>
    (some (ar .sub .i64 O.1 a)).bind fun P=>
     bif (cm .lss P (0:Int)) then
      some (.next ((ar .add .i64 (IntKind.wrap .i64 (sh .shr .u64 (IntKind.wrap .u64 (ar .add .i64 u.1 u.2)) (1:Int))) (1:Int)),u.2))
     else
      some (.next (u.1,(IntKind.wrap .i64 (sh .shr .u64 (IntKind.wrap .u64 (ar .add .i64 u.1 u.2)) (1:Int)))))
  else
   some (.done (.WT u.1))) (fun s=>∃i j:Nat,s=((i:Int),(j:Int))/\i<=L1.length/\L1.length<=j/\j<=l.length) (fun s=>(s.2 - s.1).toNat) (fun y=>y=(L1.length:Int)) ((0:Int),(l.length:Int)) (by unfold fK;simp;omega) ⟨0,l.length,rfl,by omega,by omega,by omega⟩ (by
   rintro s ⟨i,j,rfl,T,U,V⟩;simp only[cl,PA,aC2];by_cases X:i<j
   ·left;have D:(i:Int)<(j:Int):=by omega
    rw[XC D,VL (by omega)];obtain⟨h,R⟩:∃h,h=(i+j) / 2:=⟨_,rfl⟩
    rw[<-R];have aa:h<j:=by omega
    have ab:i<=h:=by omega
    obtain⟨x,S,A⟩:=wZ (l:=l) (n:=(h:Int)) (by omega) (by omega);simp only[p6] at A;have H:x∈l:=aB7 A;simp only[S,cM,G x H];rw[B] at A;by_cases C:x.1 - a<0
    ·rw[XC C];have z:h<L1.length:=by
      rcases N4 h L1.length with z | z
      ·exact z
      ·rw[aDq z] at A;have:=h2 x (aB7 A);omega
     refine⟨_,rfl,⟨h+1,j,?_,by omega,U,V⟩,?_⟩
     ·rw[u6 (by omega)]
     ·simp only[u6 (show h<=4611686018427387904 by omega)];omega
    ·rw[WV C];have z:L1.length<=h:=by
      rcases N4 h L1.length with z | z
      ·rw[aBu z] at A;have:=h1 x (aB7 A);omega
      ·exact z
     exact⟨_,rfl,⟨i,h,rfl,T,z,by omega⟩,by simp only;omega⟩
   ·right;have D:¬((i:Int)<(j:Int)):=by omega
    rw[WV D]
    exact⟨_,rfl,by omega⟩)
 rw[Q];simp only[cl,ce,PA,aC2];cases L2 with
 |nil=>
  have:¬((L1.length:Int)<(l.length:Int)):=by simp at F;omega
  rw[WV this];rfl
 |cons y L2=>
  have I:(L1.length:Int)<(l.length:Int):=by simp at F;omega
  rw[XC I,jZ B];have K:=G y (by rw[B];simp);simp only[cM,K];congr 3;by_cases h:y.1=a
  ·simp[h]
  ·have:¬(y.1 - a=0):=by omega
   simp[h,this]
def T9(l:List pQ)(p:pQ):List pQ:=(l.takeWhile fun x=>x.1<p.1)++p::(l.dropWhile fun x=>x.1<p.1).filter fun x=>x.1≠p.1
theorem Gs{L1 L2:List pQ}{p:pQ}(h1:∀x∈L1,x.1<p.1)(h2:∀x∈L2,p.1<=x.1):T9 (L1++L2) p=L1++p::L2.filter fun x=>x.1≠p.1:=by
 unfold T9;have A:∀L1:List pQ,(∀x∈L1,x.1<p.1)->(L1++L2).takeWhile (fun x=>decide (x.1<p.1))=L1/\(L1++L2).dropWhile (fun x=>decide (x.1<p.1))=L2:=by
  intro L1
  induction L1 with
  |nil=>
   intro _;cases L2 with
   |nil=>simp
   |cons y L2=>
    have:=h2 y (by simp);have B:¬(y.1<p.1):=by omega
    simp[B]
  |cons x L1 E=>
   intro h;have C:=h x (by simp);obtain⟨u,z⟩:=E fun y D=>h y (by simp[D]);simp[C,u,z]
 obtain⟨u,z⟩:=A L1 h1;rw[u,z]
end Go.p7
namespace Go.p7
open Go.Pl
open Go Go.Sw Go.Mo
def yY:Bd:=(0,[],[],false)
theorem m5{b:Bd}{n:Int}(h:uO b n=0):1<=n/\n<=32/\0<=b.1/\b.1<=2147483647/\b.2.2.1.length<=4/\YW n (-1) b.2.1=true/\¬(b.2.2.2=true/\b.2.2.1.length>0)/\(b.2.2.1.length:Int)<=b.1/\Gr n (b.1 - b.2.2.1.length+1) 0 b.2.2.1=true:=by
 unfold uO at h;split at h
 ·cases h
 ·rename_i z;split at h
  ·cases h
  ·rename_i A;split at h
   ·rename_i u;exact⟨by omega,by omega,by omega,by omega,by omega,u.1,u.2.1,u.2.2.1,u.2.2.2⟩
   ·cases h
theorem Ly{n base:Int}:∀{l:List Ep} {i:Int},Gr n base i l=true->∀e∈l,YW n (-1) e.2=true
 | [],_,_,e,u=>by simp at u
 |x::l,i,h,e,u=>by
  simp only[Gr] at h;split at h
  ·rename_i z;rcases q9.1 u with rfl | u
   ·exact z.1
   ·exact Ly h e u
  ·cases h
theorem vg(b:Bd)(n:Int)(p:pQ)(hb:Sm b):tY b n p=some (if uO b n≠0 then (yY,some (uO b n)) else if p.1<0\/p.1>=n then (yY,some 1) else ((b.1,T9 b.2.1 p,b.2.2.1,b.2.2.2),none)):=by
 unfold tY;simp only[j3 b n hb,r6 b hb,cM];by_cases z:uO b n=0
 ·obtain⟨N,O,P,Q,R,E,S,T,U⟩:=m5 z;simp only[opt,z,l6,j7,pF,ne_eq,aDk,l7];by_cases A:p.1<0
  ·simp[cl,A,yY]
  by_cases B:p.1>=n
  ·simp[cl,L4,A,B,yY]
  obtain⟨u,L2,F,G,H,M⟩:=Ey n p.1 b.2.1 _ E;have C:=ZD n b.2.1 _ E;have h:=hb.op;rw[F] at C h;have I:=Zb u L2 p.1 G H h (fun x L=>by have:=C x L;omega) (by omega);rw[WV (by omega)];rw[F,I,Gs G H,M];simp only[cl,L4,A,B,D5,pF,cM,jp];cases L2 with
  |nil=>
   simp only[pF,gK,Sw.ins,ai];rw[XC ⟨by omega,by omega,by simp at h ⊢;omega⟩];simp
  |cons y L2=>
   by_cases D:y.1=p.1
   ·have K:(u++y::L2).set u.length p=u++p::L2:=by simp
    simp only[D,fa,XX,mZ,cM,p6,l6,K]
   ·simp only[D,D5,pF,gK,Sw.ins,l7];rw[XC ⟨by omega,by simp;omega,by simp at h ⊢;omega⟩];simp
 ·simp[opt,z,yY]
theorem NF(b:Bd)(n:Int)(hb:Sm b):rY b n=some (if uO b n≠0 then (yY,some (uO b n)) else if b.1=2147483647 then (yY,some 2) else
  if b.2.2.2=true then ((b.1+1,[],b.2.2.1,b.2.2.2),none) else if b.2.2.1.length=4 then ((b.1+1,[],[],true),none) else ((b.1+1,[],b.2.2.1++[(b.1+1,b.2.1)],b.2.2.2),none)):=by
 unfold rY;simp only[j3 b n hb,r6 b hb,cM];by_cases h:uO b n=0
 ·obtain⟨B,C,D,E,F,G,H,I,K⟩:=m5 h;simp only[opt,h,l6,j7,pF,ne_eq,aDk,l7,ce];by_cases u:b.1=2147483647
  ·simp[u,yY]
  simp only[u,D5,pF,l7];rw[j5 (by omega)];cases hbh:b.2.2.2 with
  |true=>simp
  |false=>
   by_cases z:b.2.2.1.length=4
   ·simp[z]
   ·have A:¬((b.2.2.1.length:Int)=4):=by omega
    simp only[A,D5,pF,z,l7,T3];rw[VU _ _ (by simp;omega)];rfl
 ·simp[opt,h,yY]
theorem EC(l:List Ep)(num:Int)(hl:l.length<=1000000):bX l num=some (l.filter fun e=>decide (num<e.1)):=by
 have M:cC l num=some (match l.findIdx? (fun e=>decide (e.1<=num)) with | some j=>(j:Int) | none=> -1):=by
  unfold cC;show lp _ ((fun (i:Nat)=>(i:Int)) 0) _=_;rw[Sx (l:=l) (fun (i:Nat)=>(i:Int)) (fun e=>decide (e.1<=num)) (fun j=>(j:Int)) () (Gn hl (by decide))]
  ·cases l.findIdx? (fun e=>decide (e.1<=num))<;>rfl
  ·intro u x rest h;have hp:u.length<=1000000:=by rw[h] at hl;simp at hl;omega
   simp only[kL h,XX,jZ h,cM,u6 (show u.length<=4611686018427387904 by omega),oD,zy,PA];by_cases E:x.1<=num<;>simp[E]
  ·simp only[dT,pF]
 unfold bX;rw[M];simp only[cM];cases hf:l.findIdx? (fun e=>decide (e.1<=num)) with
 |none=>
  have E:=List.findIdx?_eq_none_iff.1 hf;have:l.filter (fun e=>decide (num<e.1))=l:=aDa.2 fun e F=>by have:=E e F;simp at this ⊢;omega
  simp[ce,this]
 |some j=>
  obtain⟨hj,E,h2⟩:=List.findIdx?_eq_some_iff_getElem.1 hf;obtain⟨P,B,R,rfl,aa⟩:∃P B R,l=P++B::R/\P.length=j:=⟨l.take j,l[j],l.drop (j+1),by rw[List.getElem_cons_drop,ak],by rw[E9];omega⟩
  subst aa;have ab:B.1<=num:=by simpa using E
  have N:∀e∈P,num<e.1:=by
   intro e F;obtain⟨q,L,rfl⟩:=aEd F;have:=h2 q L;rw[aC7 L] at this;simp at this;omega
  have O:P.filter (fun e=>decide (num<e.1))=P:=aDa.2 fun e F=>by simpa using N e F
  have Q:¬((P.length:Int)= -1):=by omega
  simp only[ce,Q,D5,pF];have ed:P.length<=1000000:=by simp at hl;omega
  rw[u6 (by omega)];show lp _ ((fun (t:Nat) (a:Int×List Ep)=>(a.1,((P.length+1+t:Nat):Int),a.2)) 0 ((P.length:Int),P++B::R)) _=_;refine Dk (l:=R) (fun (t:Nat) (a:Int×List Ep)=>(a.1,((P.length+1+t:Nat):Int),a.2))
   (fun u a=>∃K J:List Ep,K=P++u.filter (fun e=>decide (num<e.1))/\a.1=(K.length:Int)/\a.2=K++J++R.drop u.length/\K.length+J.length=P.length+1+u.length)
   (fun a=>(a.1,a.2)) ((P.length:Int),P++B::R) (by unfold fK;simp at hl;omega) ⟨P,[B],by simp,rfl,by simp,by simp⟩ ?_ ?_ ?_
  ·rintro u x rest ⟨i,xs⟩ h ⟨K,J,C,z,A,D⟩;simp only at z A;subst z A;have ac:R.length=u.length+1+rest.length:=by rw[h];simp;omega
   have G:((P.length+1+u.length:Nat):Int)<((K++J++R.drop u.length).length:Int):=by
    simp only[sM,V8];omega
   have JF:R.drop u.length=x::rest:=by rw[h];simp
   have S:Sw.idx (K++J++R.drop u.length) ((P.length+1+u.length:Nat):Int)=some x:=by
    rw[JF];apply sD;rw[aDq (by rw[sM];omega),sM,D];simp
   have H:R.drop (u++[x]).length=rest:=by rw[h];simp
   simp only[cl,G,fa,XX,S,cM,oD,zy,PA];rw[u6 (show P.length+1+u.length<=4611686018427387904 by simp at hl;omega)];by_cases I:x.1<=num
   ·refine⟨((K.length:Int),K++J++R.drop u.length),by simp[I];omega,K,J++[x],?_,rfl,?_,?_⟩
    ·rw[C,aB4];have:¬(num<x.1):=by omega
     simp[this]
    ·simp only;rw[JF,H];simp
    ·simp;omega
   ·have T:J≠ []:=by
     rintro rfl;have:=aCx (fun e:Ep=>decide (num<e.1)) u;rw[C] at D;simp at D;omega
    cases J with
    |nil=>exact absurd rfl T
    |cons y J=>
     have U:Sw.idx (K++y::J++R.drop u.length) (K.length:Int)=some y:=by
      rw[E0];exact mZ K y (J++R.drop u.length)
     rw[u6 (show K.length<=4611686018427387904 by
      have:K.length<=P.length+1+u.length:=by omega
      simp at hl;omega)]
     refine⟨(((K.length+1:Nat):Int),K++x::J++R.drop u.length),?_,K++[x],J++[x],?_,by simp,?_,?_⟩
     ·simp only[I,D5,wo,l6,U,cM];simp;omega
     ·rw[C,aB4];have:num<x.1:=by omega
      simp[this]
     ·simp only;rw[JF,H];simp
     ·simp at D ⊢;omega
  ·rintro⟨i,xs⟩ ⟨K,J,C,z,A,D⟩;simp only at z A;subst z A;have G:¬(((P.length+1+R.length:Nat):Int)<((K++J++R.drop R.length).length:Int)):=by
    simp only[sM,V8];omega
   simp only[cl,G,D5,pF]
  ·rintro⟨i,xs⟩ ⟨K,J,C,z,A,D⟩;simp only at z A;subst z A;have V:R.drop R.length=[]:=List.drop_length;simp only[V,ai];have X:Sw.sub (K++J) (K.length:Int) ((K++J).length:Int)=some J:=by
    rw[Sw.sub,XC (by simp only[sM];omega),p6,p6,aDc,rf]
   simp only[X,cM,p6];have e2:List.take K.length (K++J)=K:=by simp
   rw[e2,Sw.sub,XC (by simp only[sM];omega)];simp only[cM,p6,Int.toNat_zero,List.drop_zero,aCo,B1];rw[C,aB4,O,aD5];have:¬(num<B.1):=by omega
   simp[this]
theorem NG(b:Bd)(n num:Int)(hb:Sm b):pO b n num=some (if uO b n≠0 then (yY,some (uO b n)) else if num<0\/num>b.1 then (yY,some 1) else
  ((b.1,b.2.1,b.2.2.1.filter (fun e=>decide (num<e.1)),if num=b.1 then false else b.2.2.2),none)):=by
 unfold pO;simp only[j3 b n hb,r6 b hb,cM,EC b.2.2.1 num hb.se];by_cases u:uO b n=0
 ·simp only[opt,u,l6,j7,pF,ne_eq,aDk,l7,ce,cl,cg,jp];by_cases h:num<0
  ·simp[h,yY]
  by_cases z:num>b.1
  ·simp[h,z,yY]
  rw[WV (by omega)];by_cases A:num=b.1
  ·subst A;simp[h]
  ·simp[h,z,A]
 ·simp[opt,u,yY]
def Br(A:List (Option pQ))(p:pQ):List (Option pQ):=A.set p.1.toNat (some p)
def Rel(A:List (Option pQ)):Prop:=∀(k:Nat) (p:pQ),A[k]? =some (some p)->p.1=(k:Int)
theorem Rel.set{A:List (Option pQ)}{p:pQ}(h:Rel A)(hp:0<=p.1):Rel (Br A p):=by
 intro k q u;unfold Br at u;by_cases z:p.1.toNat=k
 ·subst z;by_cases B:p.1.toNat<A.length
  ·rw[aBz B] at u;cases u;omega
  ·rw[al (by rw[aCs];omega)] at u;cases u
 ·rw[vh z] at u;exact h k q u
def pR(A:List (Option pQ))(num:Int)(l:List Ep):List (Option pQ):=l.foldl (fun A e=>if num<e.1 then e.2.foldl Br A else A) A
theorem Vn(l:List pQ):∀(A:List (Option pQ)),(l.foldl Br A).length=A.length:=by
 induction l with
 |nil=>intro A;rfl
 |cons x l h=>intro A;rw[V6,h];simp[Br]
theorem Bs(num:Int)(l:List Ep):∀(A:List (Option pQ)),(pR A num l).length=A.length:=by
 induction l with
 |nil=>intro A;rfl
 |cons x l h=>
  intro A;unfold pR at h ⊢;rw[V6,h];split
  ·exact Vn _ _
  ·rfl
theorem gr(b:Bd)(n num:Int)(hb:Sm b):nI b n num=some (if uO b n≠0 then ((0,[]),false,some (uO b n)) else if num<0\/num>b.1 then ((0,[]),false,some 1) else
  if b.1 - num>b.2.2.1.length then ((0,[]),false,none) else ((b.1,(pR (List.replicate 32 none) num b.2.2.1).filterMap id),true,none)):=by
 unfold nI;simp only[j3 b n hb,cM];by_cases F:uO b n=0
 ·obtain⟨k1,k2,k3,k4,k5,k6,k7,k8,U⟩:=m5 F;simp only[opt,F,l6,j7,pF,ne_eq,aDk,l7];by_cases G:num<0
  ·simp[cl,G]
  by_cases M:num>b.1
  ·simp[cl,cg,G,M]
  rw[WV (by omega)];simp only[cl,cg,G,M,D5,pF,cM];rw[O3 (by omega)];by_cases N:b.1 - num>b.2.2.1.length
  ·simp[N]
  simp only[N,D5,pF,l7];have H:=hb.se;show lp _ ((fun (i:Nat) (a:List (Option pQ))=>((i:Int),a)) 0 (List.replicate 32 none)) _=_;refine Dk (l:=b.2.2.1) (fun (i:Nat) (a:List (Option pQ))=>((i:Int),a)) (fun u a=>a=pR (List.replicate 32 none) num u) (fun a=>a) (List.replicate 32 none) (Gn H (by decide)) rfl ?_ ?_ ?_
  ·intro u e T acc h C;have P:u.length<=1000000:=by rw[h] at H;simp at H;omega
   have I:=hb.ep e (Ad h);have Q:=Ly U e (Ad h);have R:=ZD n e.2 _ Q;have D:acc.length=32:=by rw[C,Bs];simp
   refine⟨if num<e.1 then e.2.foldl Br acc else acc,?_,by rw[C];simp[pR]⟩;have K:(u.length:Int)<(b.2.2.1.length:Int):=by rw[h];simp;omega
   simp only[K,fa,XX,jZ h,cM];show lp _ ((fun (i:Nat) (a:List (Option pQ))=>((i:Int),a)) 0 acc) _=_;refine Dk (l:=e.2) (fun (i:Nat) (a:List (Option pQ))=>((i:Int),a)) (fun u a=>a=if num<e.1 then u.foldl Br acc else acc) (fun a=>a) acc (Gn I (by decide)) (by simp) ?_ ?_ ?_
   ·intro O x ac B E z;have X:O.length<=1000000:=by rw[E] at I;simp at I;omega
    have S:(O.length:Int)<(e.2.length:Int):=by rw[E];simp;omega
    have aa:=R x (Ad E)
    refine⟨if num<e.1 then Br B x else B,?_,by
     rw[z];by_cases A:num<e.1
     ·simp[A]
     ·simp[A]⟩
    simp only[S,fa,XX,jZ E,cM];rw[u6 (by omega)];by_cases A:num<e.1
    ·have L:e.1>num:=A;have ab:B.length=32:=by rw[z,XC A,Vn];exact D
     obtain⟨y,V,_⟩:=wZ (l:=B) (n:=x.1) (by omega) (by omega);simp only[L,fa,XX,V,cM,l6,A,Br]
    ·have L:¬(e.1>num):=A;simp only[L,D5,pF,A,l7]
   ·intro B _;simp
   ·intro B z;rw[u6 (by omega),z]
  ·intro acc _;simp
  ·intro acc C;have D:acc.length=32:=by rw[C,Bs];simp
   rw[<-C];show lp _ ((fun (i:Nat) (a:List pQ)=>((i:Int),a)) 0 []) _=_;refine Dk (l:=acc) (fun (i:Nat) (a:List pQ)=>((i:Int),a)) (fun u a=>a=u.filterMap id) (fun a=>a) [] (by unfold fK;omega) rfl ?_ ?_ ?_
   ·intro u x T a h z;have P:u.length<32:=by rw[<-D,h];simp
    have K:(u.length:Int)<32:=by omega
    have Z9:=List.length_filterMap_le id u;simp only[K,fa,XX,jZ h,cM];cases x with
    |none=>
     refine⟨a,?_,by rw[z];simp⟩;simp only[j7,pF];rw[u6 (by omega)]
    |some x=>
     refine⟨a++[x],?_,by rw[z];simp⟩;simp only[aCv,XX,cM];rw[VU _ _ (by rw[z];simp;omega),cM,u6 (by omega)]
   ·intro a _;rw[D];rfl
   ·intro a z;rw[z]
 ·simp[opt,F]
end Go.p7
namespace Go.p7
open Go.Pl
open Go Go.Sw Go.Mo
end Go.p7
namespace Go.p7
open Go.Pl
open Go Go.Sw Go.Mo
theorem Vo{n:Int}{p:pQ}(hp:0<=p.1/\p.1<n){l:List pQ}(h:YW n (-1) l=true):YW n (-1) (T9 l p)=true:=by
 obtain⟨u,D,rfl,I,K,M⟩:=Ey n p.1 l _ h;rw[Gs I K];have L:∀(u:List pQ) (last:Int) (R:List pQ),YW n last (u++D)=true->(∀x∈u,x.1<p.1)->last<p.1->(∀C,C<p.1->YW n C D=true->YW n C R=true)->YW n last (u++R)=true:=by
  intro u
  induction u with
  |nil=>intro last R z _ F E;exact E last F z
  |cons x u N=>
   intro last R z G F E;simp only[dk,YW] at z ⊢;split at z
   ·cases z
   ·rename_i H;rw[WV H];exact N x.1 R z (fun y A=>G y (by simp[A])) (G x (by simp)) E
 refine L u (-1) _ h I (by omega) fun C O B=>?_;simp only[YW];rw[WV (by omega),M];cases D with
 |nil=>rfl
 |cons y D=>
  simp only[YW] at B;split at B
  ·cases B
  ·rename_i H;by_cases A:y.1=p.1
   ·simp only[A,l6];rw[<-A];exact B
   ·simp only[A,l7,YW];have:=K y (by simp);rw[WV (by omega)];exact B
theorem Nu{n base:Int}{e:Ep}:∀{l:List Ep} {i:Int},Gr n base i l=true->YW n (-1) e.2=true->e.1=base+i+l.length->Gr n base i (l++[e])=true
 | [],i,_,u,z=>by simp only[V7,Gr];rw[XC ⟨u,by simpa using z⟩]
 |x::l,i,h,u,z=>by
  simp only[dk,Gr] at h ⊢;split at h
  ·rename_i A;rw[XC A];exact Nu h u (by rw[z];simp only[D9];omega)
  ·cases h
theorem Nv{n base num:Int}:∀{l:List Ep} {i:Int},Gr n base i l=true->Gr n (base+(l.length - (l.filter fun e=>decide (num<e.1)).length:Int)) i (l.filter fun e=>decide (num<e.1))=true
 | [],_,_=>by simp[Gr]
 |x::l,i,h=>by
  have E:=h;simp only[Gr] at h;split at h
  ·rename_i H;by_cases C:num<x.1
   ·
    have F:∀{l:List Ep} {j:Int},Gr n base j l=true->num<base+j->∀e∈l,num<e.1:=by
     intro l
     induction l with
     |nil=>intro j _ _ e u;simp at u
     |cons y l A=>
      intro j z I e u;simp only[Gr] at z;split at z
      ·rename_i D;rcases q9.1 u with rfl | u
       ·omega
       ·exact A z (by omega) e u
      ·cases z
    have B:(x::l).filter (fun e=>decide (num<e.1))=x::l:=aDa.2 fun e u=>by
     rcases q9.1 u with rfl | u
     ·simpa using C
     ·have:=F h (by omega) e u;simpa using this
    rw[B];simpa using E
   ·have B:(x::l).filter (fun e=>decide (num<e.1))=l.filter (fun e=>decide (num<e.1)):=by simp[C]
    rw[B];have A:=Nv (num:=num) h;have G:∀{l:List Ep} {b j:Int},Gr n b (j+1) l=true->Gr n (b+1) j l=true:=by
     intro l
     induction l with
     |nil=>intro _ _ _;rfl
     |cons y l A=>
      intro b j z;simp only[Gr] at z ⊢;split at z
      ·rename_i D;rw[XC ⟨D.1,by omega⟩];exact A z
      ·cases z
    have:=G A;have e:base+((l.length:Int) - ((l.filter fun e=>decide (num<e.1)).length:Int))+1=base+(((x::l).length:Int) - ((l.filter fun e=>decide (num<e.1)).length:Int)):=by
     simp only[D9];omega
    rw[e] at this;exact this
  ·cases h
theorem Ez{b:Bd}{n:Int}(h1:1<=n/\n<=32)(h2:0<=b.1/\b.1<=2147483647)(h3:b.2.2.1.length<=4)(h4:YW n (-1) b.2.1=true)(h5:¬(b.2.2.2=true/\b.2.2.1.length>0))(h6:(b.2.2.1.length:Int)<=b.1)(h7:Gr n (b.1 - b.2.2.1.length+1) 0 b.2.2.1=true):uO b n=0:=by
 unfold uO;rw[WV (by omega),WV (by omega),XC ⟨h4,h5,h6,h7⟩]
theorem ct{b:Bd}{n:Int}(h:uO b n=0):Sm b:=by
 obtain⟨H,I,K,L,M,C,N,O,D⟩:=m5 h;have A:∀(l:List pQ) (last:Int),-1<=last->YW n last l=true->(l.length:Int)<=n - last - 1\/l=[]:=by
  intro l
  induction l with
  |nil=>intro _ _ _;exact .inr rfl
  |cons x l E=>
   intro last F h;simp only[YW] at h;split at h
   ·cases h
   ·rename_i G;left;rcases E x.1 (by omega) h with u | u
    ·simp only[D9];omega
    ·subst u;simp only[D9,X3];omega
 have z:∀l:List pQ,YW n (-1) l=true->l.length<=1000000:=fun l h=>by
  rcases A l (-1) (by omega) h with u | u
  ·omega
  ·subst u;simp
 exact⟨z _ C,by omega,fun e B=>z _ (Ly D e B)⟩
theorem NH{b:Bd}{n:Int}{p:pQ}(h:uO b n=0)(hp:0<=p.1/\p.1<n):uO (b.1,T9 b.2.1 p,b.2.2.1,b.2.2.2) n=0:=by
 obtain⟨u,z,A,B,C,D,E,F,G⟩:=m5 h;exact Ez ⟨u,z⟩ ⟨A,B⟩ C (Vo hp D) E F G
theorem IM{b:Bd}{n num:Int}(h:uO b n=0)(_hn:0<=num/\num<=b.1):uO (b.1,b.2.1,b.2.2.1.filter (fun e=>decide (num<e.1)),if num=b.1 then false else b.2.2.2) n=0:=by
 obtain⟨A,B,C,D,E,F,G,K,H⟩:=m5 h;have z:=aCx (fun e:Ep=>decide (num<e.1)) b.2.2.1;refine Ez ⟨A,B⟩ ⟨C,D⟩ (fc z E) F ?_ (by simp only;omega) ?_
 ·rintro⟨u,I⟩;simp only at u I;split at u
  ·cases u
  ·exact G ⟨u,by omega⟩
 ·have:=Nv (num:=num) H;have e:b.1 - (b.2.2.1.length:Int)+1+((b.2.2.1.length:Int) - ((b.2.2.1.filter fun e=>decide (num<e.1)).length:Int))=b.1 - ((b.2.2.1.filter fun e=>decide (num<e.1)).length:Int)+1:=by omega
  rw[e] at this;exact this
def Ce(b:Bd):Bd:=if b.2.2.2=true then (b.1+1,[],b.2.2.1,b.2.2.2) else if b.2.2.1.length=4 then (b.1+1,[],[],true) else (b.1+1,[],b.2.2.1++[(b.1+1,b.2.1)],b.2.2.2)
theorem IN{b:Bd}{n:Int}(h:uO b n=0)(hn:b.1<2147483647):uO (Ce b) n=0:=by
 obtain⟨u,z,F,G,H,D,B,I,E⟩:=m5 h;unfold Ce;cases hbh:b.2.2.2 with
 |true=>
  have C:b.2.2.1=[]:=iw (by simp[hbh] at B;simp[B]);simp only[l6,C];exact Ez ⟨u,z⟩ (by simp only;omega) (by simp) rfl (by simp) (by simp;omega) rfl
 |false=>
  by_cases A:b.2.2.1.length=4
  ·simp only[T3,l7,A,l6];exact Ez ⟨u,z⟩ (by simp only;omega) (by simp) rfl (by simp) (by simp;omega) rfl
  ·simp only[T3,l7,A];refine Ez ⟨u,z⟩ (by simp only;omega) (by simp;omega) rfl (by simp) (by simp;omega) ?_;have e:b.1+1 - ((b.2.2.1++[(b.1+1,b.2.1)]).length:Int)+1=b.1 - (b.2.2.1.length:Int)+1:=by simp;omega
   simp only;rw[e];exact Nu E D (by simp only;omega)
theorem xx{b:Bd}{n:Int}(h:uO b n=0)(hn:b.1<2147483647):rY b n=some (Ce b,none):=by
 rw[NF b n (ct h),WV (by omega),WV (by omega)];unfold Ce;split
 ·rfl
 ·split<;>rfl
theorem aKl{b:Bd}{n:Int}{p:pQ}(h:uO b n=0)(hp:0<=p.1/\p.1<n):tY b n p=some ((b.1,T9 b.2.1 p,b.2.2.1,b.2.2.2),none):=by
 rw[vg b n p (ct h),WV (by omega),WV (by omega)]
theorem NI{b:Bd}{n num:Int}(h:uO b n=0)(hn:0<=num/\num<=b.1):pO b n num=some ((b.1,b.2.1,b.2.2.1.filter (fun e=>decide (num<e.1)),if num=b.1 then false else b.2.2.2),none):=by
 rw[NG b n num (ct h),WV (by omega),WV (by omega)]
end Go.p7
namespace Go.p7
open Go.Pl
open Go Go.Sw Go.Mo
def Lz(bs:List aQ)(ps:List pQ):List aQ:=ps.foldl (fun bs p=>bs.set p.1.toNat p.2) bs
def Gt(l:List pQ)(i:Nat):Option pQ:=l.reverse.find? fun q=>q.1==(i:Int)
theorem ED(p:pQ)(l:List pQ)(i:Nat):Gt (p::l) i=(Gt l i).or (if p.1=(i:Int) then some p else none):=by
 unfold Gt;rw[List.reverse_cons,List.find?_append];congr 1;by_cases h:p.1=(i:Int)
 ·simp[h]
 ·simp[h]
theorem Rc(p:pQ)(l:List pQ)(i:Nat):Gt (l++[p]) i=if p.1=(i:Int) then some p else Gt l i:=by
 unfold Gt;rw[List.reverse_append];by_cases h:p.1=(i:Int)
 ·simp[h]
 ·simp[h]
theorem Tc:∀(l:List pQ) (bs:List aQ) (i:Nat),(∀p∈l,0<=p.1)->(Lz bs l)[i]? =match Gt l i with | some p=>if i<bs.length then some p.2 else none | none=>bs[i]?
 | [],bs,i,_=>rfl
 |p::l,bs,i,h=>by
  have A:=h p (by simp);show (Lz (bs.set p.1.toNat p.2) l)[i]? =_;rw[Tc l _ i fun q z=>h q (by simp[z]),ED];cases hg:Gt l i with
  |some q=>simp[hg]
  |none=>
   simp only[Option.none_or];by_cases u:p.1=(i:Int)
   ·have:p.1.toNat=i:=by omega
    rw[XC u,this,aCq];simp
   ·have:p.1.toNat≠i:=by omega
    rw[WV u,vh this]
theorem Rd{bs:List aQ}{l l':List pQ}(h:∀p∈l,0<=p.1)(h':∀p∈l',0<=p.1)(hg:∀i,Gt l i=Gt l' i):Lz bs l=Lz bs l':=by
 apply aCc;intro i;rw[Tc l bs i h,Tc l' bs i h',hg i]
theorem EE{n:Int}{l:List pQ}{p:pQ}(h:YW n (-1) l=true)(i:Nat):Gt (T9 l p) i=Gt (l++[p]) i:=by
 obtain⟨E,A,rfl,C,D,_⟩:=Ey n p.1 l _ h;rw[Gs C D,Rc];unfold Gt;simp only[List.reverse_append,List.reverse_cons,List.find?_append];have B:((A.filter fun x=>decide (x.1≠p.1)).reverse.find? fun q=>q.1==(i:Int))=if p.1=(i:Int) then none else A.reverse.find? fun q=>q.1==(i:Int):=by
  rw[<-List.filter_reverse,List.find?_filter];split
  ·rename_i u;rw[List.find?_eq_none];intro x _;simp;omega
  ·rename_i u;congr 1;funext x;by_cases z:x.1=(i:Int)
   ·have:x.1≠p.1:=by omega
    simp[z];omega
   ·simp[z]
 rw[B];by_cases u:p.1=(i:Int)
 ·simp[u]
 ·simp[u]
def SS(A:List (Option pQ))(i:Nat):Option pQ:=(A[i]?).join
theorem Vp{A:List (Option pQ)}(h:Rel A)(i:Nat):Gt (A.filterMap id) i=SS A i:=by
 unfold Gt SS;have E:∀q,(A.filterMap id).reverse.find? (fun q=>q.1==(i:Int))=some q->(A[i]?).join=some q:=by
  intro q u;have F:=List.find?_some u;have z:=List.mem_of_find?_eq_some u;rw[List.mem_reverse,aDh] at z;obtain⟨o,G,D⟩:=z;simp only[id_eq] at D;subst D;obtain⟨j,H,I⟩:=aEd G;have B:A[j]? =some (some q):=by rw[F5 H,I]
  have C:=h j q B;have:j=i:=by simp at F;omega
  subst this;rw[B];rfl
 cases u:(A.filterMap id).reverse.find? (fun q=>q.1==(i:Int)) with
 |some q=>rw[E q u]
 |none=>
  rw[List.find?_eq_none] at u;cases hA:A[i]? with
  |none=>rfl
  |some o=>
   cases o with
   |none=>rfl
   |some q=>
    have C:=h i q hA;exfalso;refine u q ?_ (by simp[C]);rw[List.mem_reverse,aDh];exact⟨some q,aB7 hA,rfl⟩
theorem NJ{A:List (Option pQ)}{p:pQ}(h:p∈A.filterMap id):∃j:Nat,A[j]? =some (some p):=by
 obtain⟨o,z,u⟩:=aDh.1 h;simp only[id_eq] at u;subst u;obtain⟨j,B,C⟩:=aEd z;exact⟨j,by rw[F5 B,C]⟩
theorem Nw{A:List (Option pQ)}(h:Rel A){p:pQ}(hp:p∈A.filterMap id):0<=p.1/\p.1<(A.length:Int):=by
 obtain⟨j,u⟩:=NJ hp;have:=h j p u;have z:=(aCb.1 u).1;omega
theorem NK{A:List (Option pQ)}{p:pQ}(h0:0<=p.1)(hl:p.1<(A.length:Int))(i:Nat):SS (Br A p) i=if p.1=(i:Int) then some p else SS A i:=by
 unfold SS Br;by_cases h:p.1=(i:Int)
 ·have:p.1.toNat=i:=by omega
  rw[XC h,this,aCq];have:i<A.length:=by omega
  simp[this]
 ·have:p.1.toNat≠i:=by omega
  rw[WV h,vh this]
theorem Vq{bs:List aQ}:∀(ps:List pQ) {A:List (Option pQ)},Rel A->(∀p∈ps,0<=p.1/\p.1<(A.length:Int))->Lz bs ((ps.foldl Br A).filterMap id)=Lz (Lz bs (A.filterMap id)) ps/\Rel (ps.foldl Br A)
 | [],_,h,_=>⟨rfl,h⟩
 |p::ps,A,h,C=>by
  have z:=C p (by simp);have B:=h.set z.1;obtain⟨D,E⟩:=Vq (bs:=bs) ps B fun q u=>by rw[show (Br A p).length=A.length from aCs];exact C q (by simp[u])
  refine⟨?_,E⟩;show Lz bs ((ps.foldl Br (Br A p)).filterMap id)=Lz ((Lz bs (A.filterMap id)).set p.1.toNat p.2) ps;rw[D];congr 1;have:(Lz bs (A.filterMap id)).set p.1.toNat p.2=Lz bs (A.filterMap id++[p]):=by unfold Lz;rw[aC5];rfl
  rw[this];refine Rd (fun q u=>(Nw B u).1) (fun q u=>?_) fun i=>?_
  ·rcases N9.1 u with u | u
   ·exact(Nw h u).1
   ·simp at u;subst u;exact z.1
  ·rw[Vp B,NK z.1 z.2,Rc,Vp h]
def BT(snaps:List (List aQ))(l:List Ep):Prop:=∀e∈l,1<=e.1/\Lz (snaps.getD (e.1 - 1).toNat []) e.2=snaps.getD e.1.toNat []
theorem Vr{n base k:Int}{snaps:List (List aQ)}(hn:n<=32)(hk:base - 1<=k)(hb:1<=base):∀(l:List Ep),Gr n base 0 l=true->BT snaps l->
  Lz (snaps.getD k.toNat []) ((pR (List.replicate 32 none) k l).filterMap id)=snaps.getD (max k (base+l.length - 1)).toNat []/\Rel (pR (List.replicate 32 none) k l):=by
 have I:∀(l:List Ep) (i:Int) (e:Ep),Gr n base i (l++[e])=true->Gr n base i l=true/\YW n (-1) e.2=true/\e.1=base+i+l.length:=by
  intro l
  induction l with
  |nil=>
   intro i e h;simp only[V7,Gr] at h;split at h
   ·rename_i u;exact⟨rfl,u.1,by simpa using u.2⟩
   ·cases h
  |cons x l F=>
   intro i e h;simp only[dk,Gr] at h ⊢;split at h
   ·rename_i u;obtain⟨A,B,T⟩:=F (i+1) e h;rw[XC u];exact⟨A,B,by rw[T];simp only[D9];omega⟩
   ·cases h
 have K:∀(m:Nat) (l:List Ep),l.length=m->Gr n base 0 l=true->BT snaps l->
  Lz (snaps.getD k.toNat []) ((pR (List.replicate 32 none) k l).filterMap id)=snaps.getD (max k (base+l.length - 1)).toNat []/\Rel (pR (List.replicate 32 none) k l):=by
  intro m
  induction m with
  |zero=>
   intro l z _ _;have:=iw z;subst this;refine⟨?_,fun j p E=>?_⟩
   ·have:(pR (List.replicate 32 (none:Option pQ)) k []).filterMap id=[]:=by simp[pR,List.filterMap_replicate]
    rw[this];have:max k (base+(([]:List Ep).length:Int) - 1)=k:=by simp only[X3];omega
    rw[this];rfl
   ·simp only[pR,List.foldl_nil,aDw] at E;split at E<;>cases E
  |succ m F=>
   intro l z H C;rcases List.eq_nil_or_concat l with rfl |⟨q,e,rfl⟩
   ·simp at z
   rw[List.concat_eq_append] at z H C ⊢;obtain⟨u,D,h3⟩:=I q 0 e H;obtain⟨A,B⟩:=F q (by simp at z;exact z) u fun Q R=>C Q (by simp[R]);obtain⟨c1,U⟩:=C e (by simp);have L:((q++[e]).length:Int)=q.length+1:=by simp
   have M:pR (List.replicate 32 none) k (q++[e])=if k<e.1 then e.2.foldl Br (pR (List.replicate 32 none) k q) else pR (List.replicate 32 none) k q:=by simp[pR]
   rw[M,L];by_cases G:k<e.1
   ·rw[XC G];have N:=ZD n e.2 _ D;have aa:(pR (List.replicate 32 (none:Option pQ)) k q).length=32:=by rw[Bs];simp
    obtain⟨V,X⟩:=Vq (bs:=snaps.getD k.toNat []) e.2 B fun p S=>by have:=N p S;omega
    refine⟨?_,X⟩;rw[V,A];have O:max k (base+(q.length:Int) - 1)=e.1 - 1:=by omega
    have P:max k (base+((q.length:Int)+1) - 1)=e.1:=by omega
    rw[O,P,U]
   ·rw[WV G];refine⟨?_,B⟩;rw[A];congr 2;omega
 intro l u D;exact K l.length l rfl u D
theorem uP{A:Type}{l:List A}{x d:A}{i:Nat}(h:i<l.length):(l++[x]).getD i d=l.getD i d:=by
 rw[R4,R4,aBu h]
theorem Fa{A:Type}{l:List A}{x d:A}{i:Nat}(h:i=l.length):(l++[x]).getD i d=x:=by
 subst h;rw[R4];simp
theorem Zc{n k:Int}{l:List Ep}(h:∀e∈l,YW n (-1) e.2=true){j:Nat}{p:pQ}(hp:(pR (List.replicate 32 none) k l)[j]? =some (some p)):0<=p.1/\p.1<n:=by
 have E:∀(q:List pQ) (A:List (Option pQ)),(∀x∈q,0<=x.1/\x.1<n)->(∀(j:Nat) (p:pQ),A[j]? =some (some p)->0<=p.1/\p.1<n)->∀(j:Nat) (p:pQ),(q.foldl Br A)[j]? =some (some p)->0<=p.1/\p.1<n:=by
  intro q
  induction q with
  |nil=>intro A _ h;exact h
  |cons x q C=>
   intro A B z;refine C _ (fun y G=>B y (by simp[G])) fun j p u=>?_;unfold Br at u;rw[aCq] at u;split at u
   ·split at u
    ·cases u;exact B _ (by simp)
    ·cases u
   ·exact z j p u
 have F:∀(l:List Ep) (A:List (Option pQ)),(∀e∈l,YW n (-1) e.2=true)->(∀(j:Nat) (p:pQ),A[j]? =some (some p)->0<=p.1/\p.1<n)->∀(j:Nat) (p:pQ),(pR A k l)[j]? =some (some p)->0<=p.1/\p.1<n:=by
  intro l
  induction l with
  |nil=>intro A _ z;exact z
  |cons e l C=>
   intro A D z;refine C _ (fun H I=>D H (by simp[I])) fun j p u=>?_;simp only at u;split at u
   ·exact E e.2 A (fun x B=>by have:=ZD n e.2 _ (D e (by simp)) x B;omega) z j p u
   ·exact z j p u
 exact F l _ h (fun j p u=>by rw[aDw] at u;split at u<;>cases u) j p hp
end Go.p7
namespace Go.j6
open Go.Pl
open Go Go.Sw Go.Mo
theorem IP(l:List aQ)(b:aQ)(h:l.length<=1000000):Dj l b=some (if b∈l then ((l.idxOf b:Nat):Int) else -1):=by
 unfold Dj;rw[show (0:Int)=((0:Nat):Int) from rfl,Bo (l:=l) (fun i (_:Unit)=>(i:Int)) () (fun i z _=>if z=b then .done (.ret (i:Int)) else .next ()) (fun _=> .WT ()) (by unfold fK;omega)]
 ·have:∀(l:List aQ) (i:Nat),sY (fun (i:Nat) (z:aQ) (_:Unit)=>(if z=b then Step.done (Ex.ret (i:Int)) else .next ():Step Unit (Ex Unit Int))) (fun _=> .WT ()) i () l=if b∈l then .ret ((i+l.idxOf b:Nat):Int) else .WT ():=by
   intro l;induction l with
   |nil=>intro i;simp[sY]
   |cons x l C=>
    intro i;simp only[sY];by_cases u:x=b
    ·subst u;simp
    ·have A:¬b=x:=fun h=>u h.symm;rw[WV u];simp only[C,q9,A,false_or,List.idxOf_cons];have:(x==b)=false:=by simp[u]
     rw[this];simp only[pF];split<;>simp<;>omega
  rw[this];split<;>simp[out]
 ·rintro B x D acc rfl;simp only[pP,XX,mZ,cM,Jc,IA (n:=B.length) (m:=1000000) (by simp at h;omega) (by omega)];by_cases u:x=b<;>simp[u,Jc]
 ·intro _;simp[dT]
theorem Re(pre:List aQ)(z:aQ):fQ (pre.map fun x=>(x,true)) z=if z∈pre then some true else none:=by
 induction pre with
 |nil=>simp[fQ]
 |cons x pre A=>
  simp only[H9,fQ,A,q9];by_cases u:x=z
  ·simp[u]
  ·have:¬z=x:=fun h=>u h.symm;simp[u,this]
theorem j3(l:List aQ)(h:l.length<=1000000):qF l=some (if l.length>8 then some 2 else if l.Nodup then none else some 3):=by
 unfold qF;by_cases E:l.length>8
 ·have:cm .gtr (l.length:Int) 8=true:=by simp[cm];omega
  rw[this];simp[E]
 have:cm .gtr (l.length:Int) 8=false:=by simp[cm];omega
 rw[this,WV E];simp only[pF];rw[show ((0:Int),([]:List (aQ×Bool)))=(((0:Nat):Int),(l.take 0).map fun x=>(x,true)) from rfl,Bo (l:=l) (fun i (_:Unit)=>((i:Int),(l.take i).map fun x=>(x,true))) () (fun i z _=>if z∈l.take i then .done (.ret (some 3)) else .next ()) (fun _=> .WT ()) (by unfold fK;omega)]
 ·have:∀(u pre:List aQ),l=pre++u->pre.Nodup->sY (fun (i:Nat) (z:aQ) (_:Unit)=>(if z∈l.take i then Step.done (Ex.ret (some 3)) else .next ():Step Unit (Ex Unit (Option Int)))) (fun _=> .WT ()) pre.length () u=if l.Nodup then .WT () else .ret (some 3):=by
   intro u;induction u with
   |nil=>intro pre B D;rw[ai] at B;subst B;simp[sY,D]
   |cons x u K=>
    intro pre B D;simp only[sY];have C:l.take pre.length=pre:=by rw[B];simp
    rw[C];by_cases A:x∈pre
    ·rw[XC A];have:¬l.Nodup:=by rw[B,List.nodup_append];rintro⟨_,_,I⟩;exact I x A x (by simp) rfl
     simp[this]
    ·rw[WV A];have:=K (pre++[x]) (by rw[B];simp) (by rw[List.nodup_append];exact⟨D,by simp,fun a H b F=>by simp at F;subst F;rintro rfl;exact A H⟩);simpa using this
  have:=this l [] rfl (by simp);simp only[X3] at this;rw[this];split<;>simp[out]
 ·rintro pre x u acc rfl;have C:(pre++x::u).take pre.length=pre:=by simp
  simp only[pP,XX,mZ,cM,C,Re,Jc,IA (n:=pre.length) (m:=1000000) (by simp at h;omega) (by omega)];by_cases A:x∈pre
  ·simp[A,Jc]
  ·have G:(pre++x::u).take (pre.length+1)=pre++[x]:=by rw[List.take_append];simp[aCa]
   simp only[A,l7,aEw,pF,Hn,Re,cM,Jc,G];simp
 ·intro _;simp[dT]
end Go.j6
namespace Go.j6
open Go.Pl
open Go Go.Sw Go.Mo
abbrev m9:=Int×Int×Int×aQ
def Td(h:List aQ):Int:=if h.length>8 then 2 else if h.Nodup then 0 else 3
def YU(e h:List aQ):Int:=if e.length<1\/e.length>32 then 1 else Td h
def opt(n:Int):Option Int:=if n=0 then none else some n
theorem Nx(l:List aQ)(h:l.length<=1000000):qF l=some (opt (Td l)):=by
 rw[j3 l h];unfold Td opt;by_cases u:l.length>8
 ·simp[u]
 by_cases z:l.Nodup<;>simp[u,z]
theorem Ny(e h:List aQ)(hh:h.length<=1000000):nZ e h=some (opt (YU e h)):=by
 unfold nZ YU;simp only[cl,cg,Nx h hh];by_cases u:e.length<1
 ·have:(e.length:Int)<1:=by omega
  simp[u,this,opt]
 by_cases B:e.length>32
 ·have z:¬(e.length:Int)<1:=by omega
  have A:(e.length:Int)>32:=by omega
  simp[u,B,z,A,opt]
 have z:¬(e.length:Int)<1:=by omega
 have A:¬(e.length:Int)>32:=by omega
 simp[u,B,z,A]
def Pr(n prev:Int)(x:m9):Bool:=decide (x.1<=prev) || decide (x.1>=n) || decide (x.2.1<0) || decide (x.2.1>3)
def Gu(n:Int):Int->List m9->Bool
 |_,[]=>true
 |prev,x::l=> !Pr n prev x && Gu n x.1 l
theorem NL(n prev:Int)(x:m9){γ:Type}(k:Bool->Option γ):((bif (cm .leq x.1 prev) then
  some true
  else
   bif (cm .geq x.1 n) then
    some true
   else
    bif (cm .lss x.2.1 (0:Int)) then
     some true
    else
     some (cm .gtr x.2.1 (3:Int))).bind k)=k (Pr n prev x):=by
 simp only[zy,L4,cl,cg];unfold Pr;by_cases h:x.1<=prev
 ·simp[h]
 by_cases u:x.1>=n
 ·simp[h,u]
 by_cases z:x.2.1<0
 ·simp[h,u,z]
 simp[h,u,z]
theorem Rf{n:Int}:∀{l:List m9} {prev:Int},Gu n prev l=true->∀x∈l,0<=x.2.1/\x.2.1<=3
 | [],_,_,x,u=>by simp at u
 |y::l,prev,h,x,u=>by
  simp only[Gu,G7,re] at h;rcases q9.1 u with rfl | u
  ·have:=h.1;unfold Pr at this;simp at this;omega
  ·exact Rf h.2 x u
def Vs(w n:Int)(l:List m9):Int:=if w=0 then (if Gu n (-1) l then 0 else 1) else w
theorem IS{γ:Type}(l:List m9)(n:Int)(z:γ)(hl:l.length<=1000000)(k:Unit->Option γ):
  lp (β:=Unit) (fun (R9:Int×Int)=>
    bif (cm .lss R9.2 (l.length:Int)) then
     (Sw.idx l R9.2).bind fun dq=>
      (bif (cm .leq dq.1 R9.1) then
       some true
      else
       bif (cm .geq dq.1 n) then
        some true
       else
        bif (cm .lss dq.2.1 (0:Int)) then
         some true
        else
         some (cm .gtr dq.2.1 (3:Int))).bind fun jq=>
       bif jq then
        some (.done (.ret z))
       else
        some (.next (dq.1,(ar .add .i64 R9.2 (1:Int))))
    else
     some (.done (.WT ()))
    ) ((-1:Int),(0:Int)) k=if Gu n (-1) l then k () else some z:=by
 refine(Bo (l:=l) (fun i (acc:Int)=>(acc,(i:Int))) (-1:Int) (fun _ x acc=>if Pr n acc x then .done (.ret z) else .next x.1) (fun _=> .WT ()) (Gn hl (by decide)) ?_ ?_).trans ?_
 ·intro B x C acc h;simp only[kL h,XX,jZ h,cM,NL];by_cases u:Pr n acc x=true
  ·simp[u,Jc]
  ·simp only[vj] at u;rw[u6 (by rw[h] at hl;simp at hl;omega)];simp[u,Jc]
 ·intro acc;simp only[dT,pF]
 ·have:∀(l:List m9) (i:Nat) (prev:Int),sY (fun (_:Nat) (x:m9) (acc:Int)=>(if Pr n acc x then .done (.ret z) else .next x.1:Step Int (Ex Unit γ))) (fun _=> .WT ()) i prev l=if Gu n prev l then .WT () else .ret z:=by
   intro l
   induction l with
   |nil=>intro i prev;simp[sY,Gu]
   |cons x l A=>
    intro i prev;simp only[sY];by_cases u:Pr n prev x=true
    ·simp[u,Gu]
    ·simp only[vj] at u;simp[u,Gu,A]
  rw[this];by_cases g:Gu n (-1) l=true<;>simp[g,out]
def Ae(x:m9)(e h:List aQ):aQ×Bool:=
 if x.2.1=0 then (aR,true) else if x.2.1=3 then (x.2.2.2,true) else
  let l:=if x.2.1=2 then h else e
  if x.2.2.1<0\/x.2.2.1>=l.length then (aR,false) else (l.getD x.2.2.1.toNat [],true)
theorem IT(l:List aQ)(n:Int):((bif (cm .lss n (0:Int)) then
  some true
        else
         some (cm .geq n (l.length:Int))).bind fun x5=>
         bif x5 then
          some (aR,false)
         else
          (Sw.idx l n).bind fun z8=>
           some (z8,true))=some (if n<0\/n>=l.length then (aR,false) else (l.getD n.toNat [],true)):=by
 rw[cl,L4];by_cases h:n<0
 ·simp[h]
 by_cases u:n>=l.length
 ·simp[h,u]
 have z:n.toNat<l.length:=by omega
 have:Sw.idx l n=some (l.getD n.toNat []):=by unfold Sw.idx;rw[XC (by omega)];simp[R4,F5 z]
 simp only[h,u,D5,pF,cM,this,aE1,l7]
theorem QF(l:List aQ)(n:Int):tN l n=some (if n<0\/n>=l.length then (aR,false) else (l.getD n.toNat [],true)):=IT l n
def Te(e h:List aQ)(x:m9)(acc:List (Int×aQ)×List Int):List (Int×aQ)×List Int:=
 if (Ae x e h).2 then (acc.1++[(x.1,(Ae x e h).1)],acc.2) else (acc.1,acc.2++[x.1])
def YK(e h:List aQ)(l:List m9):List (Int×aQ)×List Int:=(l.zipIdx).foldl (fun acc x=>Te e h x.1 acc) ([],[])
theorem IU(e h:List aQ)(x:m9)(acc:List (Int×aQ)×List Int):(Te e h x acc).1.length+(Te e h x acc).2.length=acc.1.length+acc.2.length+1:=by
 unfold Te;split<;>simp<;>omega
theorem IV{γ:Type}(e h:List aQ)(x:m9)(acc:List (Int×aQ)×List Int)(ha:acc.1.length+acc.2.length<=1000000)(k:List (Int×aQ)×List Int->Option γ)(v:aQ×Bool)(hv:v=Ae x e h):
  (bif v.2 then (Sw.app acc.1 ([(x.1,v.1)]:(List (Int×aQ)))).bind fun aVm=>k (aVm,acc.2) else (Sw.app acc.2 ([x.1]:(List Int))).bind fun aHj=>k (acc.1,aHj))=k (Te e h x acc):=by
 subst hv;unfold Te;rw[VU _ _ (by simp;omega),VU _ _ (by simp;omega)];by_cases c:(Ae x e h).2=true
 ·simp[c]
 ·simp only[vj] at c;simp[c]
theorem Vt(l:List m9)(e h:List aQ)(hl:l.length<=1000)(hk:∀x∈l,0<=x.2.1/\x.2.1<=3){γ:Type}(k:List (Int×aQ)×List Int->Option γ):
  lp (β:=(List (Int×aQ))×(List Int)) (fun (bh:Int×(List (Int×aQ))×(List Int))=>
    bif (cm .lss bh.1 (l.length:Int)) then
     (Sw.idx l bh.1).bind fun T6=>
      bif (cm .eql T6.2.1 (1:Int)) then
       (tN e T6.2.2.1).bind fun aM1=>
        bif aM1.2 then
         (Sw.app bh.2.1 ([(T6.1,aM1.1)]:(List (Int×aQ)))).bind fun xu=>
          some (.next ((ar .add .i64 bh.1 (1:Int)),xu,bh.2.2))
        else
         (Sw.app bh.2.2 ([T6.1]:(List Int))).bind fun F8=>
          some (.next ((ar .add .i64 bh.1 (1:Int)),bh.2.1,F8))
      else
       bif (cm .eql T6.2.1 (2:Int)) then
        (tN h T6.2.2.1).bind fun sa=>
         bif sa.2 then
          (Sw.app bh.2.1 ([(T6.1,sa.1)]:(List (Int×aQ)))).bind fun xt=>
           some (.next ((ar .add .i64 bh.1 (1:Int)),xt,bh.2.2))
         else
          (Sw.app bh.2.2 ([T6.1]:(List Int))).bind fun aHj=>
           some (.next ((ar .add .i64 bh.1 (1:Int)),bh.2.1,aHj))
       else
        bif (cm .eql T6.2.1 (3:Int)) then
         (Sw.app bh.2.1 ([(T6.1,T6.2.2.2)]:(List (Int×aQ)))).bind fun aVl=>
          some (.next ((ar .add .i64 bh.1 (1:Int)),aVl,bh.2.2))
        else
         (Sw.app bh.2.1 ([(T6.1,aR)]:(List (Int×aQ)))).bind fun aVk=>
          some (.next ((ar .add .i64 bh.1 (1:Int)),aVk,bh.2.2))
    else
     some (.done (.WT (bh.2.1,bh.2.2)))
    ) ((0:Int),([]:(List (Int×aQ))),([]:(List Int))) k=k (YK e h l):=by
 refine(E4 (l:=l) (fun i (acc:List (Int×aQ)×List Int)=>((i:Int),acc.1,acc.2)) (fun i acc=>acc.1.length+acc.2.length=i) ([],[]) (fun _ x acc=>Te e h x acc) id (Gn (n:=1000) hl (by decide)) rfl ?_ ?_).trans ?_
 ·intro D x K acc B F;have H:D.length<=1000:=by rw[B] at hl;simp at hl;omega
  have I:=hk x (by rw[B];simp);refine⟨?_,by rw[IU,F]⟩;simp only[kL B,XX,ce,cM,jZ B,QF];rw[u6 (by omega)];have z:=fun v G=>IV e h x acc (by omega) (fun a=>(some (.next (((D.length+1:Nat):Int),a.1,a.2)):Option (Step (Int×(List (Int×aQ))×(List Int)) (Ex ((List (Int×aQ))×(List Int)) γ)))) v G;by_cases u:x.2.1=1
  ·have:=z (if x.2.2.1<0\/x.2.2.1>=e.length then (aR,false) else (e.getD x.2.2.1.toNat [],true)) (by unfold Ae;simp[u]);simp only[u,fa,XX];exact this
  by_cases A:x.2.1=2
  ·have:=z (if x.2.2.1<0\/x.2.2.1>=h.length then (aR,false) else (h.getD x.2.2.1.toNat [],true)) (by unfold Ae;simp[A]);simp only[u,A,fa,D5,XX,pF];exact this
  by_cases C:x.2.1=3
  ·have:=z (x.2.2.2,true) (by unfold Ae;simp[C]);simp only[u,A,C,fa,D5,XX,pF];exact this
  ·have E:x.2.1=0:=by omega
   have:=z (aR,true) (by unfold Ae;simp[E]);simp only[u,A,C,D5,pF];exact this
 ·intro acc _;simp only[dT,pF];rfl
 ·rfl
theorem IW(l:List m9)(e h:List aQ)(hl:l.length<=1000)(hh:h.length<=1000000):pN l e h=some (if Vs (YU e h) e.length l=0 then ((YK e h l).1,(YK e h l).2,none) else ([],[],some (Vs (YU e h) e.length l))):=by
 unfold pN;rw[Ny e h hh,cM];unfold Vs;by_cases u:YU e h=0
 ·simp only[u,opt,l6,j7,pF];rw[IS l _ _ (by omega)];by_cases g:Gu e.length (-1) l=true
  ·simp only[g,l6];rw[Vt l e h hl (Rf g)]
  ·simp[g]
 ·simp[u,opt]
end Go.j6
namespace Go.j6
open Go.Pl
open Go Go.Sw Go.Mo
theorem BU{α:Type}[DecidableEq α]{k:α}:∀{l:List α},kp l k=none->k∉l
 | [],_=>by simp
 |a::l,h=>by
  simp only[kp] at h;split at h
  ·cases h
  ·rename_i u;cases hr:kp l k with
   |none=>have:=BU hr;simp only[q9,not_or];exact⟨fun e=>u e.symm,this⟩
   |some j=>rw[hr] at h;cases h
theorem Rg{α β:Type}[DecidableEq α]{k:α}:∀{m:List (α×β)},k∉m.map (·.1)->fQ m k=none
 | [],_=>rfl
 | (a,b)::m,h=>by
  simp only[H9,q9,not_or] at h;simp only[fQ,WV (fun e=>h.1 (Eq.symm e))];exact Rg h.2
theorem Ku{α β:Type}[DecidableEq α]{k:α}{v:β}{b:α}:∀{m:List (α×β)},k∉m.map (·.1)->fQ (m++[(k,v)]) b=if b=k then some v else fQ m b
 | [],_=>by simp only[V7,fQ];by_cases h:k=b<;>simp[h];intro e;exact(h e.symm).elim
 | (a,c)::m,h=>by
  simp only[H9,q9,not_or] at h;simp only[dk,fQ,Ku h.2];by_cases u:a=b
  ·subst u;rw[XC rfl,XC rfl,WV (fun e=>h.1 e.symm)]
  ·simp[u]
theorem Rh{α β:Type}[DecidableEq α]{k:α}{v:β}{b:α}:∀{m:List (α×β)} {q:Nat},kp (m.map (·.1)) k=some q->fQ (wL m q v) b=if b=k then some v else fQ m b
 | [],q,h=>by simp[kp] at h
 | (a,c)::m,q,h=>by
  simp only[H9,kp] at h;split at h
  ·rename_i z;cases h;subst z;simp only[wL,List.modify_zero_cons,fQ];by_cases u:a=b
   ·simp[u]
   ·have:¬b=a:=fun e=>u e.symm;simp[u,this]
  ·rename_i z;cases hr:kp (m.map (·.1)) k with
   |none=>rw[hr] at h;cases h
   |some j=>
    rw[hr] at h;cases h;have:=Rh (v:=v) (b:=b) hr;simp only[wL] at this;simp only[wL,List.modify_succ_cons,fQ,this];by_cases u:a=b
    ·subst u;simp[z]
    ·simp[u]
theorem NM{κ α:Type}[DecidableEq κ](m:List (κ×List α))(k:κ)(hm:m.length<=140737488355328):
  ∃r,Ss m k=some r/\r.2.2=(fQ m k).getD []/\(∀v b,fQ (wL r.1 r.2.1 v) b=if b=k then some v else fQ m b)/\∀v,(wL r.1 r.2.1 v).length<=m.length+1:=by
 unfold Ss;rw[XC hm];cases hk:kp (m.map (·.1)) k with
 |none=>
  have u:=BU hk;refine⟨_,rfl,by rw[Rg u];rfl,fun v b=>?_,fun v=>?_⟩
  ·have:wL (m++[(k,[])]) m.length v=m++[(k,v)]:=by
    apply aCc;intro i;simp only[wL,aB6];rcases Nat.lt_trichotomy i m.length with h | h | h
    ·rw[aBu h,aBu h];have:¬m.length=i:=by omega
     simp[this]
    ·subst h;simp
    ·rw[al (by simp;omega),al (by simp;omega)];rfl
   simp only[this];exact Ku u
  ·simp[wL]
 |some q=>
  refine⟨_,rfl,?_,fun v b=>Rh hk,fun v=>by simp[wL]⟩;rw[BE,hk];rfl
structure az (l:List aQ) (M:List (aQ×List Int)):Prop where
 none:∀b,b∉l->fQ M b=Option.none
 some:∀b,b∈l->∃t,fQ M b=Option.some (((l.idxOf b:Nat):Int)::t)/\t.length<=l.length
 len:M.length<=l.length
theorem r6(l:List aQ)(h:l.length<=1000000):aP l=some l:=by
 unfold aP;rw[VU _ _ (by simp;omega)];rfl
theorem az.add{l:List aQ}{M M':List (aQ×List Int)}{x:aQ}(h:az l M)(hg:∀b,fQ M' b=if b=x then Option.some ((fQ M x).getD []++[(l.length:Int)]) else fQ M b)(hlen:M'.length<=M.length+1):az (l++[x]) M':=by
 refine⟨fun b z=>?_,fun b z=>?_,by have:=h.len;simp;omega⟩
 ·simp only[N9,aB9,not_or] at z;rw[hg,WV z.2,h.none b z.1]
 ·rw[hg];by_cases A:b=x
  ·subst A;rw[XC rfl,List.idxOf_append];by_cases u:b∈l
   ·obtain⟨t,B,C⟩:=h.some b u;rw[B,XC u];exact⟨t++[(l.length:Int)],by simp,by simp;omega⟩
   ·rw[h.none b u,WV u];exact⟨[],by simp,by simp⟩
  ·have u:b∈l:=by
    rcases N9.1 z with h | h
    ·exact h
    ·exact(A (by simpa using h)).elim
   rw[WV A,List.idxOf_append,XC u];obtain⟨t,B,C⟩:=h.some b u;exact⟨t,B,by simp;omega⟩
theorem Vu(l:List aQ)(h1:1<=l.length)(h2:l.length<=32):∃M,az l M/\wD l=some (some (l,M),none):=by
 unfold wD;have E:cm .lss (l.length:Int) 1=false:=by rw[cl];simp;omega
 have F:cm .gtr (l.length:Int) 32=false:=by rw[cg];simp;omega
 simp only[E,pF,F,cM,r6 l (by omega)];have G:((0:Int),([]:List (aQ×List Int)))=(fun (i:Nat) (acc:List (aQ×List Int))=>((i:Int),acc)) 0 []:=rfl;rw[G]
 obtain⟨M,O,P⟩:=IE (l:=l) (k:=fun I=>some (some (l,I),(none:Option Int))) (step:=fun (u:Int×(List (aQ×(List Int))))=>
        bif (cm .lss u.1 (l.length:Int)) then
         (Sw.idx l u.1).bind fun K=>
          (Ss u.2 K).bind fun B=>
           (Sw.app B.2.2 ([u.1]:(List Int))).bind fun L=>
            some (.next ((ar .add .i64 u.1 (1:Int)),wL B.1 B.2.1 L))
        else
         some (.done (.WT u.2))) (fun (i:Nat) (acc:List (aQ×List Int))=>((i:Int),acc)) (fun h acc=>az h acc) (fun acc=>acc) [] (by unfold fK;omega) ⟨fun b _=>rfl,fun b N=>by simp at N,YZ _⟩ (by
   intro h x V acc A z;have U:h.length<32:=by rw[A] at h2;simp at h2;omega
   obtain⟨r,Q,D,R,S⟩:=NM acc x (by have:=z.len;omega);have H:r.2.2.length+1<=4294967296:=by
    rw[D];by_cases C:x∈h
    ·obtain⟨t,T,X⟩:=z.some x C;rw[T];simp;omega
    ·rw[z.none x C];simp
   refine⟨wL r.1 r.2.1 (r.2.2++[(h.length:Int)]),?_,z.add (fun b=>?_) (S _)⟩
   ·simp only[kL A,XX,jZ A,cM,Q,VU _ [(h.length:Int)] (by simpa using H)];rw[u6 (by omega)]
   ·rw[R,D]) (by
   intro acc z
   simp only[dT,pF])
 exact⟨M,O,P⟩
theorem Ic{l l':List aQ}{M:List (aQ×List Int)}(h:az l M)(b:aQ):lV (some (l',M)) b=some (if b∈l then (((l.idxOf b:Nat):Int),true) else (0,false)):=by
 unfold lV;simp only[cM];by_cases u:b∈l
 ·obtain⟨t,z,_⟩:=h.some b u;rw[z,XC u];have:cm .eql (((some (((l.idxOf b:Nat):Int)::t)).getD []).length:Int) 0=false:=by rw[ce];simp;omega
  rw[this];simp[Sw.idx]
 ·rw[h.none b u,WV u];simp[ce]
theorem IX(l:List aQ)(b:aQ)(h:l.length<=1000000):eJ l b=some (if b∈l then ((l.idxOf b:Nat):Int) else -1):=by
 rw[<-IP l b h];unfold eJ Dj;have:∀z:aQ,decide (b=z)=decide (z=b):=fun z=>by by_cases h:b=z<;>simp[h];intro e;exact(h e.symm).elim
 simp only[this]
theorem Ie(l:List aQ)(b:aQ)(h:l.length<=1000000):uM l b=some (if b∈l then (((l.idxOf b:Nat):Int),true) else (0,false)):=by
 unfold uM;rw[IX l b h,cM];by_cases u:b∈l
 ·simp only[u,l6,L4];congr 2<;>simp
 ·simp[u,L4];decide
abbrev Pt:=Int×aQ
def Ub(p:Pt)(peer YT:List aQ):m9:=
 if p.2=aR then (p.1,0,0,aR) else if p.2∈peer then (p.1,1,((peer.idxOf p.2:Nat):Int),aR) else if p.2∈YT then (p.1,2,((YT.idxOf p.2:Nat):Int),aR) else (p.1,3,0,p.2)
def same(p:Pt)(peer:List aQ):Bool:=decide (peer[p.1.toNat]? =some p.2)
def ZQ(YK:List Pt)(peer YT:List aQ):List m9:=(YK.filter fun p=> !same p peer).map fun p=>Ub p peer YT
theorem NN{γ:Type}{peer mn YT:List aQ}{M:List (aQ×List Int)}(h:az peer M)(hh:YT.length<=1000000)(p:Pt)(acc:List m9)(ha:acc.length<=1000000)(k:List m9->Option γ):
  lp (β:=(List (Int×Int×Int×aQ))) (fun (bw:Int)=>
    bif (cm .lss bw (([(.inl ():lQ),(.inr (.inl (some (mn,M))):lQ),(.inr (.inr (.inl YT)):lQ),(.inr (.inr (.inr (.inl ()))):lQ)]:(List lQ)).length:Int)) then
     (Sw.idx ([(.inl ():lQ),(.inr (.inl (some (mn,M))):lQ),(.inr (.inr (.inl YT)):lQ),(.inr (.inr (.inr (.inl ()))):lQ)]:(List lQ)) bw).bind fun wz=>
      (jG wz p).bind fun nu=>
       bif nu.2 then
        (Sw.app acc ([nu.1]:(List (Int×Int×Int×aQ)))).bind fun xr=>
         some (.done (.WT xr))
       else
        some (.next (ar .add .i64 bw (1:Int)))
    else
     some (.done (.WT acc))
    ) (0:Int) k=k (acc++[Ub p peer YT]):=by
 obtain⟨z,A⟩:∃z,z=([(.inl ():lQ),(.inr (.inl (some (mn,M))):lQ),(.inr (.inr (.inl YT)):lQ),(.inr (.inr (.inr (.inl ()))):lQ)]:(List lQ)):=⟨_,rfl⟩
 rw[<-A];have D:∀w∈z,∃v,jG w p=some v:=by
  intro w F;rw[A] at F;simp only[q9,aCm,aEl] at F;rcases F with rfl | rfl | rfl | rfl
  ·exact⟨_,rfl⟩
  ·exact⟨_,by simp only[jG,oA,Ic h,cM];rfl⟩
  ·exact⟨_,by simp only[jG,lW,Ie YT _ hh,cM];rfl⟩
  ·exact⟨_,rfl⟩
 have H:∀q:m9,Sw.app acc [q]=some (acc++[q]):=fun q=>VU acc [q] (by simp;omega);rw[show (0:Int)=(fun (i:Nat) (_:Unit)=>(i:Int)) 0 () from rfl,Bo (l:=z) (fun (i:Nat) (_:Unit)=>(i:Int)) () (fun _ w _=>match jG w p with | some v=>if v.2=true then .done (.WT (acc++[v.1])) else .next () | none=> .next ()) (fun _=> .WT acc) (by rw[A];unfold fK;simp)]
 ·have I:jG (.inl ()) p=some ((p.1,0,0,aR),decide (p.2=aR)):=rfl;have K:jG (.inr (.inl (some (mn,M)))) p=some ((p.1,1,(if p.2∈peer then (((peer.idxOf p.2:Nat):Int),true) else (0,false)).1,aR),(if p.2∈peer then (((peer.idxOf p.2:Nat):Int),true) else (0,false)).2):=by
   simp only[jG,oA,Ic h,cM]
  have L:jG (.inr (.inr (.inl YT))) p=some ((p.1,2,(if p.2∈YT then (((YT.idxOf p.2:Nat):Int),true) else (0,false)).1,aR),(if p.2∈YT then (((YT.idxOf p.2:Nat):Int),true) else (0,false)).2):=by
   simp only[jG,lW,Ie YT _ hh,cM]
  have N:jG (.inr (.inr (.inr (.inl ())))) p=some ((p.1,3,0,p.2),true):=rfl;rw[A];simp only[sY,I,K,L,N];unfold Ub;by_cases B:p.2=aR
  ·simp[B,out]
  by_cases E:p.2∈peer
  ·simp[B,E,out]
  by_cases G:p.2∈YT
  ·simp[B,E,G,out]
  ·simp[B,E,G,out]
 ·intro O x Q u C;obtain⟨v,D⟩:=D x (by rw[C];simp);have P:O.length<=4:=by
   have:z.length=4:=by rw[A];rfl
   rw[C] at this;simp at this;omega
  simp only[kL C,XX,jZ C,cM,D,H];cases ZY:v.2 with
  |true=>simp[Jc]
  |false=>simp only[pF,T3,l7,Jc];rw[u6 (by omega)]
 ·intro u;simp only[dT,pF]
end Go.j6
namespace Go.j6
open Go.Pl
open Go Go.Sw Go.Mo
def R2(n prev:Int)(x:Pt):Bool:=decide (x.1<=prev) || decide (x.1>=n)
def n6(n:Int):Int->List Pt->Bool
 |_,[]=>true
 |prev,x::l=> !R2 n prev x && n6 n x.1 l
theorem M6{n:Int}:∀{l:List Pt} {prev:Int},n6 n prev l=true->∀x∈l,prev<x.1/\x.1<n
 | [],_,_,x,u=>by simp at u
 |y::l,prev,h,x,u=>by
  simp only[n6,G7,re] at h;have z:=h.1;unfold R2 at z;simp at z;rcases q9.1 u with rfl | u
  ·omega
  ·have:=M6 h.2 x u;omega
theorem IY{γ:Type}(l:List Pt)(n:Int)(z:γ)(hl:l.length<=1000000)(k:Unit->Option γ):
  lp (β:=Unit) (fun (jf:Int×Int)=>
    bif (cm .lss jf.2 (l.length:Int)) then
     (Sw.idx l jf.2).bind fun jd=>
      (bif (cm .leq jd.1 jf.1) then
       some true
      else
       some (cm .geq jd.1 n)).bind fun vu=>
       bif vu then
        some (.done (.ret z))
       else
        some (.next (jd.1,(ar .add .i64 jf.2 (1:Int))))
    else
     some (.done (.WT ()))
    ) ((-1:Int),(0:Int)) k=if n6 n (-1) l then k () else some z:=by
 rw[show ((-1:Int),(0:Int))=(fun (i:Nat) (acc:Int)=>(acc,(i:Int))) 0 (-1) from rfl,Lv (l:=l) (fun (i:Nat) (acc:Int)=>(acc,(i:Int))) (fun _ _=>True) (fun acc x=>if R2 n acc x then .done (.ret z) else .next x.1) (fun _=> .WT ()) (-1) (by unfold fK;omega) trivial]
 ·have:∀(l:List Pt) (prev:Int),yW (fun (acc:Int) (x:Pt)=>(if R2 n acc x then Step.done (Ex.ret z) else .next x.1:Step Int (Ex Unit γ))) (fun _=> .WT ()) prev l=if n6 n prev l then .WT () else .ret z:=by
   intro l
   induction l with
   |nil=>intro prev;simp[yW,n6]
   |cons x l C=>
    intro prev;simp only[yW,n6];by_cases u:R2 n prev x=true
    ·simp[u]
    ·simp[u,C]
  rw[this];cases n6 n (-1) l<;>simp[out]
 ·rintro B x E acc rfl -;have D:B.length<=1000000:=by simp at hl;omega
  refine⟨?_,fun _ _=>trivial⟩;simp only[pP,XX,mZ,cM];simp only[L4,zy];rw[u6 (by omega)];unfold R2;by_cases h:x.1<=acc
  ·simp[h,Jc]
  ·by_cases A:x.1>=n
   ·simp[h,A,Jc]
   ·simp[h,A,Jc]
 ·rintro acc -;simp only[dT,pF]
theorem Y1(l:List Pt)(peer YT:List aQ):(ZQ l peer YT).length<=l.length:=by unfold ZQ;rw[lx];exact aCx _ _
theorem IZ(pre:List Pt)(x:Pt)(peer YT:List aQ):ZQ (pre++[x]) peer YT=ZQ pre peer YT++(if same x peer then [] else [Ub x peer YT]):=by
 unfold ZQ;rw[aB4,aCr];cases h:same x peer<;>simp[aD5,h]
theorem JB:opt 0=none:=rfl
theorem QG{n:Int}(h:n≠0):opt n=some n:=by unfold opt;rw[WV h]
theorem ju(l:List Pt)(peer YT:List aQ)(hl:l.length<=1000)(hh:YT.length<=1000000):
  rD l peer YT=some (if YU peer YT≠0 then ([],some (YU peer YT)) else if n6 (peer.length:Int) (-1) l then (ZQ l peer YT,none) else ([],some 1)):=by
 unfold rD;rw[Ny peer YT hh,cM];by_cases h:YU peer YT≠0
 ·rw[QG h,XC h];rfl
 have h:YU peer YT=0:=by simpa using h
 have A:1<=peer.length/\peer.length<=32:=by
  unfold YU at h;split at h
  ·cases h
  ·omega
 rw[h,JB];simp only[j7,pF];rw[IY l _ _ (by omega)];cases hr:n6 (peer.length:Int) (-1) l with
 |false=>simp
 |true=>
  simp only[l6];obtain⟨M,E,F⟩:=Vu peer A.1 A.2;rw[F,cM];simp only[j7,pF];have B:((0:Int),([]:List m9))=(fun (i:Nat) (acc:List m9)=>((i:Int),acc)) 0 []:=rfl;rw[B];refine(Dk (l:=l) (r:=some (ZQ l peer YT,none)) (fun (i:Nat) (acc:List m9)=>((i:Int),acc)) (fun u acc=>acc=ZQ u peer YT) (fun acc=>acc) [] (by unfold fK;omega) rfl ?_ ?_ ?_).trans (by simp)
  ·rintro u x L acc z rfl;have C:=M6 hr x (by rw[z];simp);have I:u.length<=1000:=by rw[z] at hl;simp at hl;omega
   have K:=Y1 u peer YT;obtain⟨y,G,H⟩:=wZ (l:=peer) (n:=x.1) (by omega) C.2;have D:same x peer=decide (y=x.2):=by unfold same;rw[H];simp
   refine⟨ZQ u peer YT++(if same x peer then [] else [Ub x peer YT]),?_,(IZ _ _ _ _).symm⟩;simp only[kL z,XX,jZ z,cM,jp,G,<-D];rw[NN E hh x (ZQ u peer YT) (by omega)];rw[u6 (by omega)];cases same x peer<;>simp
  ·rintro acc rfl;simp only[dT,pF]
  ·rintro acc rfl;rfl
end Go.j6
namespace Go.j6
open Go.Pl
open Go Go.Sw Go.Mo
end Go.j6
namespace Go.j6
open Go.Pl
open Go Go.Sw Go.Mo
theorem Tf(p:Pt)(peer YT:List aQ):(Ub p peer YT).1=p.1:=by unfold Ub;split;rfl;split;rfl;split<;>rfl
theorem JC(p:Pt)(peer YT:List aQ):0<=(Ub p peer YT).2.1/\(Ub p peer YT).2.1<=3:=by unfold Ub;split;simp;split;simp;split<;>simp
theorem Jq{n:Int}{peer YT:List aQ}:∀{l:List Pt} {prev mm:Int},n6 n prev l=true->mm<=prev->Gu n mm (ZQ l peer YT)=true
 | [],_,_,_,_=>rfl
 |x::l,prev,mm,h,B=>by
  simp only[n6,G7,re] at h;have u:=h.1;unfold R2 at u;simp at u;cases hs:same x peer with
  |true=>
   have e:ZQ (x::l) peer YT=ZQ l peer YT:=by unfold ZQ;simp[hs]
   rw[e];exact Jq h.2 (by omega)
  |false=>
   have e:ZQ (x::l) peer YT=Ub x peer YT::ZQ l peer YT:=by unfold ZQ;simp[hs]
   have A:=JC x peer YT;have z:Pr n mm (Ub x peer YT)=false:=by
    unfold Pr;rw[Tf];simp;omega
   rw[e];simp only[Gu,z,wo,aEt];rw[Tf];exact Jq h.2 (aDo _)
theorem JD(p:Pt)(peer YT:List aQ):Ae (Ub p peer YT) peer YT=(p.2,true):=by
 have D:∀(l:List aQ),p.2∈l->¬(((l.idxOf p.2:Nat):Int)<0\/((l.idxOf p.2:Nat):Int)>=l.length)/\l.getD (((l.idxOf p.2:Nat):Int).toNat) []=p.2:=by
  intro l h;have E:=aEg h;refine⟨by omega,?_⟩;simp[R4,F5 E]
 unfold Ub;by_cases u:p.2=aR
 ·simp[u,Ae]
 by_cases z:p.2∈peer
 ·obtain⟨B,C⟩:=D peer z;simp only[u,z,l7,l6,Ae];rw[WV (by decide),WV (by decide)];simp only[show¬(1:Int)=2 by decide,l7,B,C]
 by_cases A:p.2∈YT
 ·obtain⟨B,C⟩:=D YT A;simp only[u,z,A,l7,l6,Ae];rw[WV (by decide),WV (by decide)];simp only[l6,B,C,l7]
 ·simp[u,z,A,Ae]
def news(l:List Pt)(peer:List aQ):List Pt:=l.filter fun p=> !same p peer
theorem EF(l:List Pt)(peer YT:List aQ):YK peer YT (ZQ l peer YT)=(news l peer,[]):=by
 unfold YK;have h:∀(l:List Pt) (i:Nat) (acc:List (Int×aQ)×List Int),(((l.map fun p=>Ub p peer YT).zipIdx i).foldl (fun acc x=>Te peer YT x.1 acc) acc)=(acc.1++l,acc.2):=by
  intro l
  induction l with
  |nil=>intro i acc;simp
  |cons x l u=>
   intro i acc;rw[H9,aCk,V6,u];unfold Te;rw[JD,Tf];simp
 unfold ZQ;rw[h];simp[news]
theorem lu(l:List Pt)(peer YT:List aQ)(hl:l.length<=1000)(hh:YT.length<=1000000)(he:YU peer YT=0)(hr:n6 (peer.length:Int) (-1) l=true):
  pN (ZQ l peer YT) peer YT=some (news l peer,[],none):=by
 rw[IW _ _ _ (by have:=Y1 l peer YT;omega) hh];have:Vs (YU peer YT) peer.length (ZQ l peer YT)=0:=by
  unfold Vs;rw[he,Jq hr (aDo _)];rfl
 rw[XC this,EF]
def Lf(acc:List aQ)(l:List Pt):List aQ:=l.foldl (fun acc p=>acc.set p.1.toNat p.2) acc
theorem O5{n:Int}{peer:List aQ}:∀{l:List Pt} {prev:Int} {acc:List aQ},-1<=prev->n6 n prev l=true->(∀i:Nat,prev<(i:Int)->acc[i]? =peer[i]?)->Lf acc (news l peer)=Lf acc l
 | [],_,_,_,_,_=>rfl
 |x::l,prev,acc,F,h,z=>by
  simp only[n6,G7,re] at h;have A:=h.1;unfold R2 at A;simp at A;have D:x.1=((x.1.toNat:Nat):Int):=by omega
  cases hs:same x peer with
  |true=>
   have e:news (x::l) peer=news l peer:=by unfold news;simp[hs]
   have C:acc.set x.1.toNat x.2=acc:=by
    have B:peer[x.1.toNat]? =some x.2:=by unfold same at hs;simpa using hs
    rw[<-z x.1.toNat (by omega)] at B;apply aCc;intro i;rw[aCq];split
    ·rename_i u;subst u;split
     ·exact B.symm
     ·rename_i E;rw[al (by omega)]
    ·rfl
   rw[e,O5 (by omega) h.2 (fun i u=>z i (by omega))];show _=Lf (acc.set _ _) l;rw[C]
  |false=>
   have e:news (x::l) peer=x::news l peer:=by unfold news;simp[hs]
   rw[e];show Lf (acc.set _ _) (news l peer)=Lf (acc.set _ _) l;refine O5 (by omega) h.2 (fun i u=>?_);rw[vh (by omega)];exact z i (by omega)
end Go.j6
namespace Go.j6
open Go.Pl
open Go Go.Sw Go.Mo
theorem dy{peer YT:List aQ}(h1:1<=peer.length)(h2:peer.length<=32)(h3:YT.length<=8)(h4:YT.Nodup):YU peer YT=0:=by
 unfold YU Td;rw[WV (by omega),WV (by omega),XC h4]
theorem yf{n:Int}{l:List Pt}{peer:List aQ}(hr:n6 n (-1) l=true):∀x∈news l peer,0<=x.1/\x.1<n:=by
 intro x h;have:=M6 hr x (aCj.1 h).1;omega
end Go.j6
namespace Go.XA
open Go.Pl
open Go Go.Sw Go.Mo
def Tg:Nat:=3988292384
def Zd(r:Nat):Nat:=if r % 2=1 then r / 2 ^^^ Tg else r / 2
theorem NO{r:Nat}(h:r<4294967296):Zd r<4294967296:=by
 unfold Zd;split
 ·have:r / 2 ^^^ Tg<2 ^ 32:=aCd (by omega) (by unfold Tg;omega);simpa using this
 ·omega
def Ps:Nat->Nat->Nat
 | 0,r=>r
 |n+1,r=>Zd (Ps n r)
theorem Ma{n r:Nat}(h:r<4294967296):Ps n r<4294967296:=by
 induction n with
 |zero=>exact h
 |succ n u=>exact NO u
def Af(r:Nat)(b:Nat):Nat:=Ps 8 (r ^^^ b)
theorem Bt{r b:Nat}(h:r<4294967296)(hb:b<256):Af r b<4294967296:=by
 refine Ma ?_;have:r ^^^ b<2 ^ 32:=aCd (by omega) (by omega);simpa using this
def Ag(l:List Nat):Nat:=l.foldl Af 4294967295
theorem Ig(l:List Nat)(r:Nat)(h:r<4294967296)(hb:∀b∈l,b<256):l.foldl Af r<4294967296:=by
 induction l generalizing r with
 |nil=>exact h
 |cons b l z=>exact z _ (Bt h (hb b (by simp))) (fun x u=>hb x (by simp[u]))
def Bytes(l:List Int):Prop:=∀x∈l,0<=x/\x<=255
def nat(l:List Int):List Nat:=l.map Int.toNat
theorem Ih{l:List Int}(h:Bytes l):∀b∈nat l,b<256:=by
 intro b u;obtain⟨x,z,rfl⟩:=dj.1 u;have:=h x z;omega
theorem JE(l:List Int)(h:Bytes l)(hl:l.length<=1000000):tZ l=some ((4294967295 - Ag (nat l):Nat):Int):=by
 unfold tZ;rw[show ((4294967295:Int),(0:Int))=(((⟨4294967295,by decide⟩:{r:Nat // r<4294967296}).1:Int),((0:Nat):Int)) from rfl];rw[Bo (l:=l) (fun i (r:{r:Nat // r<4294967296})=>((r.1:Int),(i:Int))) ⟨4294967295,by decide⟩ (fun _ x r=> .next ⟨Af r.1 x.toNat % 4294967296,nj _ (by decide)⟩) (fun r=> .WT (r.1:Int)) (by unfold fK;omega)]
 ·have:∀(l:List Int) (i:Nat) (r:{r:Nat // r<4294967296}),Bytes l->sY (fun (_:Nat) (x:Int) (r:{r:Nat // r<4294967296})=>(Step.next ⟨Af r.1 x.toNat % 4294967296,nj _ (by decide)⟩:Step _ (Ex Int Int))) (fun r=> .WT (r.1:Int)) i r l= .WT (((nat l).foldl Af r.1:Nat):Int):=by
   intro l
   induction l with
   |nil=>intro i r _;rfl
   |cons x l I=>
    intro i r z;simp only[sY,nat,H9,V6];have u:=I (i+1) ⟨Af r.1 x.toNat % 4294967296,nj _ (by decide)⟩ (fun y G=>z y (by simp[G]));rw[u];have:=z x (by simp);have e:Af r.1 x.toNat % 4294967296=Af r.1 x.toNat:=R5 (Bt r.2 (by omega));show Ex.WT (((nat l).foldl Af (Af r.1 x.toNat % 4294967296):Nat):Int)=_;rw[e];rfl
  rw[this l 0 _ h];have A:(nat l).foldl Af 4294967295<4294967296:=Ig _ _ (by decide) (Ih h);simp only[out,Ag];rw[SM A]
 ·rintro H x L ⟨r,B⟩ rfl;have K:=h x (by simp);obtain⟨b,rfl⟩:∃b:Nat,x=(b:Int):=⟨x.toNat,by omega⟩
  have z:b<256:=by omega
  simp only[pP,XX,mZ,cM];have C:r ^^^ b<4294967296:=by
   have:r ^^^ b<2 ^ 32:=aCd (by omega) (by omega);simpa using this
  rw[OZ B (by omega),show ((((r ^^^ b:Nat):Int)),(0:Int))=(fun i:Nat=>((Ps i (r ^^^ b):Int),(i:Int))) 0 from rfl];rw[Vi (fun i:Nat=>((Ps i (r ^^^ b):Int),(i:Int))) 8 ((Ps 8 (r ^^^ b):Nat):Int) (by unfold fK;omega)]
  ·simp only[Jc,IA (n:=H.length) (m:=1000000) (by simp at hl;omega) (by omega),p6];rw[R5 (Bt B z)];rfl
  ·intro i F;have A:=Ma (n:=i) C;have D:cm .lss (i:Int) 8=true:=by simp[cm];omega
   have E:(Ps i (r ^^^ b)) / 2<4294967296:=by omega
   simp only[D,XX,UQ,SK A,SL (nj _ (by decide:0<2))];rw[OZ E (by split<;>decide),IA (n:=i) (m:=8) F (by omega)];simp only[Ps,Zd,Tg];split
   ·rename_i u;simp[u]
   ·rename_i u;simp[u]
  ·simp[cm]
 ·rintro⟨r,B⟩;simp[dT]
end Go.XA
