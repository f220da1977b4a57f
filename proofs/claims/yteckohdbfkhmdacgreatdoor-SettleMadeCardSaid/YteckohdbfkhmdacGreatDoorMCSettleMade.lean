/- The library over the model: how values lie, what is ours in memory, rules for operations, calls, loops. What the functions come to, as plain functions. Plain laws about these plain functions alone. Conditions: none. -/
import Derived.Test.YteckohdbfkhmdacGreatDoorMBSettleMade
import Derived.KernelRfl
set_option linter.unusedVariables false
set_option linter.unusedSimpArgs false
namespace Go.Sw
open Go Go.RowKit
def del{α:Type}(xs:List α)(lo hi:Int):Option (List α):=(sub xs lo hi).bind fun _=>some (xs.take lo.toNat++xs.drop hi.toNat)
section
variable {F:YP}{O:AS}{pb:Option Nat}{d:Option Tmp}{ty:aAb}{p:String}{af:Array Edge}{gd:Option (Nat×Bool)}{x y z:aAc}
theorem lV{g:Nat}:JO F ⟨d,.assign (.func g),ty,p,af,gd⟩ O (.o7 g []) []:=
 fun ρ S a w _=>XC.value (w':=w) (v:= .func (.func g) #[] #[]) (by simp[execOp,Act.eval]) (ZC.same (HM g ρ S w))
def dq(O:AS)(xs:List aAc)(ss:List Slot):Prop:=
 ∀(F:YP) (ρ:Nat->LV) (a:aAm) (w:aAa),Core F O.d ρ w->(∀t s,lk O.g t=some s->s.ok ρ (Un F.S0 ρ O.d) w (a.tmps.getD t undef))->aX ρ (Un F.S0 ρ []) w ss (xs.map a.eval)
theorem dq.nil:dq O [] []:=fun _ _ _ _ _ _=>by simp[aX]
theorem dq.cons{s s':Slot}{xs:List aAc}{l:List Slot}(hx:dH O.g x=some s)(h:eh O id [] s s')(k:dq O xs l):dq O (x::xs) (s'::l):=by
 intro F ρ a w r6 hs
 have A:Ext (Un F.S0 ρ O.d) (Un F.S0 (fun i=>ρ (id i)) []) w w:=⟨ZY _,fun q _ C=>⟨rfl,fun h=>C (by
  rcases h with h |⟨i,z,h,_⟩
  ·exact .inl h
  ·simp[aY] at h)⟩⟩
 have B:=(eh.spec (d':=[]) (r:=id) r6 A (fun j z D _ b E u=>by
  rcases u with u |⟨i,z,u,_⟩
  ·exact r6.apart j z b D E u
  ·simp[aY] at u) h).1 _ (Kn hs hx)
 simp only[L4,aX];exact⟨_,_,rfl,B,k F ρ a w r6 hs⟩
theorem EF{f:aAf}{xs:List aAc}{ts:Array aAb}{ss:List Slot}{res:Slot}(hc:XL F.P f ss res [])(ZE:∀args w,(callFunc f args).run F.P w= .ok (.enter f args) w)
  (ha:dq O xs ss) (hf:YZ res) (hd:gS d F.N=true):JM F ⟨d,.call ⟨.value (.func f),xs.toArray,ts⟩,ty,p,af,gd⟩ O ⟨iV d res O.g,O.d⟩:=by
 rintro a w ⟨⟨ρ,u,A⟩,C,D⟩;refine XC.enter (uL ZE) ?_;have B:∀k,Un F.S0 ρ [] k->k<w.heap.size:=by
  rintro k (h |⟨i,z,h,_⟩)
  ·exact X0 (u.low k h) u.size
  ·simp[aY] at h
 refine(hc (Un F.S0 ρ []) w _ ρ B (ha F ρ a w u A)).mono ?_;rintro e K ⟨v,rfl,ρ',E,G,H,L⟩;refine⟨v,rfl,?_⟩;have:=St.put (dst:=d) u A C D rfl hd ⟨ρ',E,G,hf _ _ _ _ _ H,⟨fun i z h=>by simp[aY] at h,fun i z b h=>by simp[aY] at h,fun i j z I b h=>by simp[aY] at h⟩⟩;cases d with
 |none=>exact this
 |some t=>exact this
end
section
variable {F:YP}{ops:Array aAi}{OK:List (Nat×XB)->Prop}{os:List aAi}{O O':AS}{its:List l5}{d:Option Tmp}{ty:aAb}{p:String}{af:Array Edge}{gd:Option (Nat×Bool)}{x y z:aAc}{α:Type}{e:Wr α}{T:aAb}{i:Nat}
theorem ZA.aW2{xs ys:List α}{lo:Int}{k:aAg}{U E:aAb}(g:GK ops O.g ⟨d,.slice U x (some y) none none,ty,p,af,gd⟩ true)(j:Nat)(hs:Sw.sub xs lo (xs.length:Int)=some ys)(hx:dH O.g x=some (.ref i))(he:aY O.d i=some (.arr T e xs))(hy:dH O.g y=some (.v (Wr.int k) lo))
  (hU:∀w,(underlying U).run F.P w= .ok (.slice E) w) (hE:∀w,(sizeOf E).run F.P w= .ok e.n w) (_:O.free [(j,.arr T e ys)]=true) (hd:gS d F.N=true) (q:ZA F ops OK os ⟨iV d (.ref j) O.g,(j,.arr T e ys)::wN O.d i⟩ its O'):
  ZA F ops OK (⟨d,.slice U x (some y) none none,ty,p,af,gd⟩::os) O (⟨.ref j,[(j,.arr T e ys)],[(j,.arr T e ys)],Li O.g ⟨d,.slice U x (some y) none none,ty,p,af,gd⟩,[i]⟩::its) O':=
 .mv (nw:=[(j,.arr T e ys)]) (dl:=[i]) g hd (fun σ2 h u=>MX j hs ((h.ev (by simp[Op.operands])).trans hx) ((h.G6 (x:=x) (by simp[Op.operands]) hx (by simp[Slot.ZR])).trans he) ((h.ev (by simp[Op.operands])).trans hy) hU hE u hd) q
theorem ZA.V3{f:aAf}{xs:List aAc}{ts:Array aAb}{ss:List Slot}{res:Slot}(g:GK ops O.g ⟨d,.call ⟨.value (.func f),xs.toArray,ts⟩,ty,p,af,gd⟩ true)(ex:List Nat)(hc:XL F.P f ss res [])(ZE:∀args w,(callFunc f args).run F.P w= .ok (.enter f args) w)
  (ha:∀σ2,Loc ops ⟨d,.call ⟨.value (.func f),xs.toArray,ts⟩,ty,p,af,gd⟩ O σ2->(∀l∈ex,aY σ2.d l=aY O.d l)->dq σ2 xs ss) (hf:YZ res) (hd:gS d F.N=true) (k:ZA F ops OK os ⟨iV d res O.g,O.d⟩ its O'):
  ZA F ops OK (⟨d,.call ⟨.value (.func f),xs.toArray,ts⟩,ty,p,af,gd⟩::os) O (⟨res,[],[],Li O.g ⟨d,.call ⟨.value (.func f),xs.toArray,ts⟩,ty,p,af,gd⟩++ex,[]⟩::its) O':=
 .mvx (nw:=[]) (fr:=[]) (dl:=[]) (ex:=ex) g hd (fun σ2 h u _=>EF hc ZE (ha σ2 h u) hf hd) k
end
end Go.Sw
namespace Go.Sw
open Go Go.RowKit
theorem EG{α:Type}{xs r:List α}{lo hi:Int}(h:del xs lo hi=some r):∃A M B,xs=A++(M++B)/\lo=(A.length:Int)/\hi=((A.length+M.length:Nat):Int)/\r=A++B:=by
 unfold del at h;cases hs:sub xs lo hi with
 |none=>rw[hs] at h;cases h
 |some v=>
  rw[hs] at h;simp only[cM,E4] at h;subst h;obtain⟨z,C,D,_⟩:=gW hs;have u:xs.drop lo.toNat=(xs.take hi.toNat).drop lo.toNat++xs.drop hi.toNat:=by
   conv=>lhs;rw[<-db hi.toNat xs]
   rw[List.drop_append_of_le_length (by rw[I8];omega)]
  refine⟨xs.take lo.toNat,(xs.take hi.toNat).drop lo.toNat,xs.drop hi.toNat,by rw[<-u,db],?_,?_,rfl⟩
  ·rw[I8];omega
  ·rw[I8,Z2,I8];omega
theorem NH{α:Type}(A M B:List α):sub (A++(M++B)) (A.length:Int) ((A.length+M.length:Nat):Int)=some M:=by
 have h:(A++(M++B)).length=A.length+(M.length+B.length):=by simp only[sM]
 rw[sub,YC (by omega),A5,A5,<-H7,List.take_left' (by rw[sM]),tv]
section
variable {F:YP}{O:AS}{d:Option Tmp}{ty:aAb}{p:String}{af:Array Edge}{gd:Option (Nat×Bool)}{x y z u:aAc}{α:Type}{e:Wr α}{T U:aAb}{i b:Nat}
theorem NI{xs ys:List α}{lo hi mx:Int}{k k' k2:aAg}{E:aAb}(hs:Sw.sub xs lo hi=some ys)(hm:mx=(xs.length:Int))(hx:dH O.g x=some (.ref i))(he:aY O.d i=some (.arr T e xs))(hy:dH O.g y=some (.v (Wr.int k) lo))(hz:dH O.g z=some (.v (Wr.int k') hi))(hu:dH O.g u=some (.v (Wr.int k2) mx))
  (hU:∀w,(underlying U).run F.P w= .ok (.slice E) w) (hE:∀w,(sizeOf E).run F.P w= .ok e.n w):JO F ⟨d,.slice U x (some y) (some z) (some u),ty,p,af,gd⟩ O (.sub i (lo.toNat*e.n) (hi.toNat - lo.toNat)) []:=by
 subst hm;intro ρ S a w K;obtain⟨A,C,V,h2,B,X⟩:=Vb K (x:=x) (by simp[Op.operands]) hx he;have D:=(fY K (x:=y) (by simp[Op.operands]) hy).1;have G:=(fY K (x:=z) (by simp[Op.operands]) hz).1;have H:=(fY K (x:=u) (by simp[Op.operands]) hu).1;obtain⟨s0,s1,s2,_⟩:=gW hs;have I:(Instr.sliceBounds true xs.length C (some (.int k lo)) (some (.int k' hi)) (some (.int k2 (xs.length:Int)))).run F.P w= .ok (lo.toNat,hi.toNat,xs.length) w:=by
  have L:(xs.length:Int)<=(C:Int):=by omega
  have M:0<=hi:=by omega
  have N:lo<=(hi.toNat:Int):=by omega
  have Q:(0:Int)<=(xs.length:Int):=by omega
  simp only[Instr.sliceBounds,Instr.sliceBound,asIntOf,Sem.run_bind,Sem.run_pure,Result.andThen_ok,s0,L,M,N,Q,s2,A5,and_self,r7]
 refine XC.value (w':=w) (v:= .slice (if xs.length=lo.toNat then A else A.map (·.add (lo.toNat*e.n))) (hi.toNat - lo.toNat) (xs.length - lo.toNat)) ?_ (ZC.same ?_)
 ·simp[execOp,Instr.sliceAt,Instr.slice,V,D,G,H,hU,hE,I]
 ·have R:∀q,A=some q->q.spot=none:=by
   rintro q rfl;rcases X with⟨_,h⟩|⟨b',R6,aa,cs,ab,h,_⟩
   ·rw[B] at h;cases h
   ·rw[B] at h;simp only[Value.slice.injEq,E4] at h;rw[h.1]
  simp only[Slot.ok];rw[B];refine⟨⟨_,_,_,rfl⟩,xs.length - lo.toNat,if xs.length=lo.toNat then 0 else lo.toNat*e.n,by omega,?_,?_⟩
  ·split
   ·right;omega
   ·exact .inl rfl
  ·cases A with
   |none=>split<;>rfl
   |some q=>
    obtain⟨b',o',sp⟩:=q;have:=R _ rfl;simp only at this;subst this;split
    ·rfl
    ·simp[Up,Addr.add_lit]
theorem Vo{o n c m:Nat}{lo:Int}{k:aAg}{E:aAb}(n':Nat)(M3:n'=0)(hlo:lo=(m:Int))(hm:m=n)(hmc:m=c)(hx:dH O.g x=some (.D4 i o 0 n c))(hy:dH O.g y=some (.v (Wr.int k) lo))
  (hU:∀w,(underlying U).run F.P w= .ok (.slice E) w) (hE:∀w,(sizeOf E).run F.P w= .ok e.n w):JO F ⟨d,.slice U x (some y) none none,ty,p,af,gd⟩ O (.D4 i o 0 n' 0) []:=by
 subst hlo hm hmc M3;intro ρ S a w K;obtain⟨b,z,A⟩:=rW (K.slot x (by simp[Op.operands]) _ hx);have h:=(fY K (x:=y) (by simp[Op.operands]) hy).1;refine XC.value (w':=w) ?_ (ZC.same (Ni z));have u:=Dp (P:=F.P) (w:=w) (len:=m) (cap:=m) (k:=k) (lo:=(m:Int)) (by omega) (by omega);simp[execOp,Instr.sliceAt,Instr.slice,A,h,hU,hE,u]
theorem Kv{o n c m m2:Nat}{lo hi:Int}{k k':aAg}{E:aAb}(o' n' c':Nat)(hlo:lo=(m:Int))(hhi:hi=(m2:Int))(hm:m<=m2)(hmc:m<c)(hm2:m2<=c)(ho:o'=o+m*e.n)(M3:n'=m2 - m)(V2:c'=c - m)(hx:dH O.g x=some (.D4 i o 0 n c))(hy:dH O.g y=some (.v (Wr.int k) lo))(hz:dH O.g z=some (.v (Wr.int k') hi))
  (hU:∀w,(underlying U).run F.P w= .ok (.slice E) w) (hE:∀w,(sizeOf E).run F.P w= .ok e.n w):JO F ⟨d,.slice U x (some y) (some z) none,ty,p,af,gd⟩ O (.D4 i o' 0 n' c') []:=by
 subst hlo hhi ho M3 V2;intro ρ S a w K;obtain⟨b,C,D⟩:=rW (K.slot x (by simp[Op.operands]) _ hx);have h:=(fY K (x:=y) (by simp[Op.operands]) hy).1;have u:=(fY K (x:=z) (by simp[Op.operands]) hz).1;refine XC.value (w':=w) ?_ (ZC.same (Ni C));have A:=DR (P:=F.P) (w:=w) (len:=n) (cap:=c) (k:=k) (k':=k') (lo:=(m:Int)) (hi:=(m2:Int)) (by omega) (by omega) (by omega);have B:¬(c=m):=by omega
 simp[execOp,Instr.sliceAt,Instr.slice,D,h,u,hU,hE,A,B,Addr.add_lit]
theorem Nr{o n c:Nat}{E:aAb}(hx:dH O.g x=some (.D4 i o 0 n c))(hU:∀w,(underlying U).run F.P w= .ok (.slice E) w)(hc:n<=9223372036854775807):JO F ⟨d,.call ⟨.builtin .len,#[x],#[U]⟩,ty,p,af,gd⟩ O (.v (Wr.int .i64) (n:Int)) []:=by
 intro ρ S a w K;obtain⟨b,u,h⟩:=rW (K.slot x (by simp[Op.operands,Call.operands]) _ hx);refine XC.value (w':=w) (v:= .int .i64 (n:Int)) ?_ (ZC.same (tP (Dl hc) _ _ _));simp[execOp,resolve,invoke,builtin,h,Hn hU]
theorem Re{pp q c o2 c2:Nat}{A M B:List α}{E:aAb}(he:aY O.d i=some (.dp (DE.P6 E e b) [.any pp,.rows A,.rows (M++B),.any q] []))(hx:dH O.g x=some (.D4 i pp 0 A.length c))(hy:dH O.g y=some (.D4 i o2 0 B.length c2))
  (ho2:B=[]\/o2=pp+(A.length+M.length)*e.n) (R0:A.length+B.length<=c)
  (hU:∀w,(underlying U).run F.P w= .ok (.slice E) w) (hE:∀w,(sizeOf E).run F.P w= .ok e.n w) (hd:gS d F.N=true):
  JM F ⟨d,.call ⟨.builtin .append,#[x,y],#[U,U]⟩,ty,p,af,gd⟩ O ⟨iV d (.D4 i pp 0 (A.length+B.length) c) O.g,(i,.dp (DE.P6 E e b) [.any pp,.rows A,.rows B,.rows [],.any (M.length*e.n+q)] [])::O.d⟩:=by
 rintro a w ⟨⟨ρ,hc,hs⟩,B4,j4⟩;have K:=cK hc hs (Op.call ⟨.builtin .append,#[x,y],#[U,U]⟩).operands;obtain⟨b1,g1,g2⟩:=rW (K.slot x (by simp[Op.operands,Call.operands]) _ hx);obtain⟨b2,g3,R⟩:=rW (K.slot y (by simp[Op.operands,Call.operands]) _ hy);obtain⟨H,cs,I,h,_,rfl,C,ca,_,rfl,k4,S,_,rfl,k5,T,_,rfl,G8,rfl⟩:=Vd hc he;have e1:b1=b:=by rw[H] at g1;cases g1;rfl
 have e2:b2=b:=by rw[H] at g3;cases g3;rfl
 rw[e1] at g2;rw[e2] at R;have C:h.length=pp:=C;have G8:T.length=q:=G8;have L:=cR k4;have Y4:=cR k5;have ai:M.length*e.n<=S.length:=by rw[Y4,sM,O8];omega
 obtain⟨cm,cb,rfl,hm,kb⟩:∃cm cb,S=cm++cb/\cm.length=M.length*e.n/\e.j7 B (Un F.S0 ρ O.d) w cb:=by
  refine⟨S.take (M.length*e.n),S.drop (M.length*e.n),(db _ _).symm,by rw[I8];omega,?_⟩;have:=wE M.length k5
  rwa [tv] at this
 have Q:=cR kb;obtain⟨rest,q8⟩:∃rest,rest=cm++(cb++T):=⟨_,rfl⟩;have X:rest.length=M.length*e.n+(B.length*e.n+q):=by rw[q8];simp only[sM];omega
 have qx:h++(ca++(cm++cb++(T++[])))=h++ca++rest:=by rw[q8];simp
 rw[qx] at I;have fin:∀w',(execOp a.eval ⟨d,.call ⟨.builtin .append,#[x,y],#[U,U]⟩,ty,p,af,gd⟩).run F.P w= .ok (.value (.slice (some ⟨b,pp,none⟩) (A.length+B.length) c)) w'->ee b w w'->
   (∃V,V.length=M.length*e.n+q/\w'.heap[b]? =some (.cells (h++ca++(cb++V)).toArray E (0,0)))->
   XC F.P ⟨d,.call ⟨.builtin .append,#[x,y],#[U,U]⟩,ty,p,af,gd⟩ a w fun v w'=>St F ⟨iV d (.D4 i pp 0 (A.length+B.length) c) O.g,(i,.dp (DE.P6 E e b) [.any pp,.rows A,.rows B,.rows [],.any (M.length*e.n+q)] [])::O.d⟩ (a.put d v) w':=by
  rintro w' D hu ⟨V,ae,ah⟩;refine XC.value D ?_;obtain⟨q1,q2⟩:=hc.upd (en':= .dp (DE.P6 E e b) [.any pp,.rows A,.rows B,.rows [],.any (M.length*e.n+q)] []) he (.inl (by rw[H];rfl)) hu fun hE=>⟨H,_,ah,h,_,by simp,C,ca,_,rfl,Wr.XF k4 hE,cb,_,rfl,Wr.XF kb hE,[],_,rfl,rfl,V,[],rfl,ae,rfl⟩;have aa:∀t s,lk O.g t=some s->s.ok ρ (Un F.S0 ρ ((i,.dp (DE.P6 E e b) [.any pp,.rows A,.rows B,.rows [],.any (M.length*e.n+q)] [])::O.d)) w' (a.tmps.getD t undef):=fun t s z=>Slot.WY s _ (hs t s z) q2 (fun _ _=>rfl);refine⟨⟨ρ,q1,fun t s z=>?_⟩,by rw[lE,B4],by cases d<;>exact j4⟩;cases d with
  |none=>exact aa t s z
  |some q0=>
   simp only[iV] at z;have YI:q0<a.tmps.size:=(by rw[B4];exact E7 hd);rw[lF a q0 _ t YI];rw[mN] at z;split at z
   ·rename_i G;cases z;rw[YC G];exact Ni H
   ·rename_i G;rw[XV G];exact aa t s z
 by_cases hB:B=[]
 ·subst hB;have ab:cb=[]:=kt (by simpa using Q);refine fin w ?_ ⟨rfl,fun _ _=>rfl,rfl,rfl,rfl⟩ ⟨rest,by rw[X];simp,by rw[ab];exact I⟩;have D:=tX (P:=F.P) (w:=w) (U:=U) (E:=E) (tt:=ty) (n:=e.n) (base:=some ⟨b,pp,none⟩) (ad:=some ⟨b,o2,none⟩) (l:=A.length) (c:=c2) (cap:=c) hU hE (by simpa using R0);simp only[ak] at R;simp[execOp,resolve,invoke,builtin,g2,R,D]
 ·have ho2:=ho2.resolve_left hB;subst ho2;have R3:∀j u,cb[j]? =some u->w.cell? ((⟨b,pp+(A.length+M.length)*e.n,none⟩:aAk).add j)=some u:=by
   have ac:XK w b (h.length+(ca++cm).length) cb:=by
    have G:=XK.of_heap I;have e3:h++ca++rest=(h++(ca++cm))++(cb++T):=(by rw[q8];simp);rw[e3] at G;have:=G.sub;simpa using this
   intro j u hj;have:=ac.cell j u hj
   rwa [C,sM,L,hm,<-O8] at this
  have U9:pp+A.length*e.n+cb.length<=(h++ca++rest).length:=by simp only[sM,C,L,X,Q];omega
  have D:=Gb (P:=F.P) (w:=w) (U:=U) (E:=E) (tt:=ty) (n:=e.n) (g:=b) (off:=pp) (l:=A.length) (cap:=c) (m:=B.length) (c:=c2) (cur:=h++ca++rest) (a:=⟨b,pp+(A.length+M.length)*e.n,none⟩) (news:=cb) hU hE I Q R3 (Lz kb) R0 U9;have z:(h++ca++rest).take (pp+A.length*e.n)=h++ca:=by
   have:pp+A.length*e.n=(h++ca).length:=(by rw[sM,C,L]);rw[this];exact aCo
  have JX:(h++ca++rest).drop (pp+A.length*e.n+cb.length)=rest.drop cb.length:=by
   have:pp+A.length*e.n=(h++ca).length:=(by rw[sM,C,L]);rw[this,<-aDz,tv]
  rw[z,JX,H7] at D;refine fin _ ?_ (ee.setRow w b _) ⟨rest.drop cb.length,by rw[Z2,X,Q];omega,setRow_heap w b _ _ E _ I⟩;simp[execOp,resolve,invoke,builtin,g2,R,D]
theorem Kw{pp q o k c:Nat}{A B:List α}{z0:aAd}{zv:α}{E:aAb}(he:aY O.d i=some (.dp (DE.P6 E e b) [.any pp,.rows A,.rows B,.rows [],.any q] []))(hx:dH O.g x=some (.D4 i o 0 k c))
  (ho:o=pp+(A.length+B.length)*e.n) (hk:k*e.n<=q) (tn:0<k)
  (hU:∀w,(underlying U).run F.P w= .ok (.slice E) w) (hZ:∀w,(zeroValue E).run F.P w= .ok z0 w) (hz:∀S w,e.ok zv S w z0.cells.toList):
  JM F ⟨none,.call ⟨.builtin .clear,#[x],#[U]⟩,ty,p,af,gd⟩ O ⟨O.g,(i,.dp (DE.P6 E e b) [.any pp,.rows A,.rows B,.rows [],.any q] [])::O.d⟩:=by
 subst ho;rintro a w ⟨⟨ρ,V,hs⟩,B4,j4⟩;have K:=cK V hs (Op.call ⟨.builtin .clear,#[x],#[U]⟩).operands;obtain⟨b1,g1,g2⟩:=rW (K.slot x (by simp[Op.operands,Call.operands]) _ hx);obtain⟨Q,cs,R,h,_,rfl,G,z,_,rfl,k4,C,_,rfl,k5,c0,_,rfl,k6,post,_,rfl,H,rfl⟩:=Vd V he;have e1:b1=b:=by rw[Q] at g1;cases g1;rfl
 rw[e1] at g2;have G:h.length=pp:=G;have H:post.length=q:=H;have cq:=cR k4;have Y4:=cR k5;have h0:c0=[]:=k6;subst h0;have X:z0.cells.size=e.n:=by have:=e.len (hz (fun _=>False) w);simpa using this
 obtain⟨news,T⟩:∃news,news=(Builtin.zeroCells z0.cells k).toList:=⟨_,rfl⟩;have X8:news.length=k*e.n:=by rw[T,ed,size_zeroCells,X]
 have G9:∀u∈news,u.oneCell'=true:=rP (Ez (hz (fun _=>False) w) k news X8 fun i hi=>by rw[T];exact Bo (by rw[X];exact hi));obtain⟨D,qx⟩:∃D,D=h++(z++(C++([]++(post++[])))):=⟨_,rfl⟩;rw[<-qx] at R;have I:D=(h++(z++C))++post:=by rw[qx];simp
 have L:pp+(A.length+B.length)*e.n=(h++(z++C)).length:=by simp only[sM,G,cq,Y4,O8]
 have U9:pp+(A.length+B.length)*e.n+news.length<=D.length:=by rw[I,sM,<-L,X8];omega
 have M:=run_storeCells_at F.P b (pp+(A.length+B.length)*e.n) E news 0 D.toArray w R (by simpa using U9) G9;simp only[aDh] at M;have N:D.take (pp+(A.length+B.length)*e.n)=h++(z++C):=by rw[I,L];exact aCo
 have JX:D.drop (pp+(A.length+B.length)*e.n+news.length)=post.drop news.length:=by rw[I,L,<-aDz,tv]
 rw[N,JX] at M;have ZW:(Builtin.clear_ #[U] ty #[.slice (some ⟨b,pp+(A.length+B.length)*e.n,none⟩) k c]).run F.P w= .ok (.tuple #[]) (w.setRow b (h++(z++C)++news++post.drop news.length).toArray):=by
  obtain⟨n',rfl⟩:∃n',k=n'+1:=⟨k - 1,by omega⟩;simp[Builtin.clear_,hU,hZ,<-T,M]
 refine XC.value (v:= .tuple #[]) (w':=w.setRow b (h++(z++C)++news++post.drop news.length).toArray) (by simp[execOp,resolve,invoke,builtin,g2,ZW]) ?_;obtain⟨q1,q2⟩:=V.upd (en':= .dp (DE.P6 E e b) [.any pp,.rows A,.rows B,.rows [],.any q] []) he (.inl (by rw[Q];rfl)) (ee.setRow w b _) fun hE=>⟨Q,_,setRow_heap w b _ (h++(z++C)++news++post.drop news.length).toArray E _ R,h,_,by simp,G,z,_,rfl,Wr.XF k4 hE,C,_,rfl,Wr.XF k5 hE,[],_,rfl,rfl,news++post.drop news.length,[],rfl,(by show (news++post.drop news.length).length=q;simp only[sM,Z2,H];omega),rfl⟩;exact⟨⟨ρ,q1,fun t s N=>Slot.WY s _ (hs t s N) q2 (fun _ _=>rfl)⟩,B4,j4⟩
end
end Go.Sw
namespace Go.Sw
open Go Go.RowKit
theorem XA.aXl{P:aAe}{f:aAf}{ss:List Slot}{vs:List aAd}{w:aAa}{v:aAd}{go:Obj}{G:Nat}(hc:XA P f ss [(G,.dp (dG v) go [])] (.v Wr.bool true) [(G,.dp (dG v) go [])])
  (hg:w.cell? ⟨0,0,none⟩=some v) (ho:w.heap[0]? =some go) (hv:aX (fun _=> .of (.pointer (some ⟨0,0,none⟩))) (fun k=>k=0) w ss vs):
  Calls P f vs.toArray w fun e w'=>e= .returned (.bool true)/\Below w.heap.size w w':=by
 have M:0<w.heap.size:=(aBn.1 ho).1;have A:∀k,mV (fun _=>LV.of (.pointer (some ⟨0,0,none⟩))) [(G,.dp (dG v) go [])] k↔k=0:=by
  intro k;constructor
  ·rintro⟨i,z,_,h⟩;rcases h with h | h
   ·exact(pT h).symm
   ·exact h.elim
  ·rintro rfl;exact⟨G,.dp (dG v) go [],by rw[cN];simp,.inl rfl⟩
 have E:Un (fun _=>False) (fun _=>LV.of (.pointer (some ⟨0,0,none⟩))) [(G,.dp (dG v) go [])]=fun k=>k=0:=by
  funext k;exact propext ⟨fun h=>h.elim False.elim (fun h=>(A k).1 h),fun h=> .inr ((A k).2 h)⟩
 have B:∀i z,aY [(G,XB.dp (dG v) go [])] i=some z->i=G/\z=XB.dp (dG v) go []:=by
  intro i z h;rw[cN] at h;split at h
  ·rename_i e;exact⟨e.symm,(pT h).symm⟩
  ·cases h
 refine Calls.mono (hc (fun _=>False) w vs (fun _=> .of (.pointer (some ⟨0,0,none⟩))) (fun _ h=>h.elim) ⟨?_,?_,fun _ _ _ _ _ h=>h,?_⟩ (by rw[E];exact hv)) ?_
 ·intro i z h;obtain⟨_,rfl⟩:=B i z h;exact⟨⟨rfl,hg⟩,ho⟩
 ·intro i z b h F;have:=(A b).1 ⟨i,z,h,F⟩;omega
 ·intro i j z H b h I _ _;rw[(B i z h).1,(B j H I).1]
 ·rintro e w' ⟨u,ρ',rfl,h⟩;have C:=h.slot;simp only[Slot.ok] at C;rw[zV.1 C];refine⟨rfl,h.os,h.tape,h.output,h.size,fun k K=>?_⟩;by_cases D:k=0
  ·subst D;have:=h.own G (.dp (dG v) go []) (by rw[cN];simp);rw[this.2,ho]
  ·exact h.frame k K (fun L=>D ((A k).1 L))
mutual
theorem Dq:∀s:Slot,s.map id=s
 | .v _ _ | .ref _ | .ptr _ _ | .jc _ _ _ _ | .el _ _ _ _ | .D4 _ _ _ _ _ | .pv _ _ _ _ | .sub _ _ _ | .ZH _ _ | .top=>rfl
 | .o7 _ c=>by rw[Slot.map,Br c]
 | .agg l | .XU l=>by rw[Slot.map,Br l]
theorem Br:∀l:List Slot,fN id l=l
 | []=>rfl
 |s::l=>by rw[fN,Dq s,Br l]
end
inductive Kp (g:List (Nat×Slot)):List Nat->List (Nat×Slot)->Prop
 |n:Kp g [] []
 |c {t:Nat} {s:Slot} {ts:List Nat} {g':List (Nat×Slot)}:lk g t=some s->Kp g ts g'->Kp g (t::ts) ((t,s)::g')
inductive Nd:List Nat->List (Nat×XB)->List (Nat×XB)->Prop
 |n {s:List Nat}:Nd s [] []
 |c {s:List Nat} {i:Nat} {en:XB} {r d:List (Nat×XB)}:iL i s=false->Nd (i::s) r d->Nd s ((i,en)::r) ((i,en)::d)
 |s {s:List Nat} {i:Nat} {en:XB} {r d:List (Nat×XB)}:iL i s=true->Nd s r d->Nd s ((i,en)::r) d
theorem Nd.spec{s:List Nat}{r d:List (Nat×XB)}(h:Nd s r d):∀i en,aY d i=some en->i∉s/\aY r i=some en:=by
 induction h with
 |n=>intro i en h;cases h
 | @c s j e r d u _ B=>
  intro i en h;have u:j∉s:=fun x=>by rw[jF.2 x] at u;cases u
  rw[cN] at h ⊢;split at h
  ·rename_i e;subst e;rw[YC rfl];exact⟨u,h⟩
  ·rename_i e;rw[XV e];obtain⟨z,A⟩:=B i en h;exact⟨fun x=>z (cz _ x),A⟩
 | @s s j e r d u _ B=>
  intro i en h;obtain⟨z,A⟩:=B i en h;refine⟨z,?_⟩;rw[cN,XV (fun e:j=i=>z (by rw[<-e];exact jF.1 u))];exact A
theorem Nd.mem{s:List Nat}{r d:List (Nat×XB)}(h:Nd s r d):∀i∈d.map (·.1),i∉s:=by
 induction h with
 |n=>intro i h;cases h
 | @c s j e r d z _ u=>
  intro i h;rcases B1.1 h with rfl | h
  ·exact fun x=>by rw[jF.2 x] at z;cases z
  ·exact fun x=>u i h (cz _ x)
 |s _ _ u=>exact u
theorem Nd.inj{s:List Nat}{r d:List (Nat×XB)}(h:Nd s r d):Sj id (d.map (·.1))=true:=by
 induction h with
 |n=>rfl
 | @c s j e r d C B u=>
  simp only[L4,Sj,u,Bool.and_true,y8];intro x A;have:=B.mem x A;cases hb:Nat.beq (id x) (id j) with
  |false=>rfl
  |true=>
   have z:x=j:=D6 hb;exact absurd (by rw[z];exact dg) this
 |s _ _ u=>exact u
theorem Ns{O:AS}{ls:List Nat}:∀{d:List (Nat×XB)},(∀x∈d,aY O.d x.1=some x.2)->K1 O id ls d
 | [],_=> .nil
 | (i,B)::d,h=>by
  have u:=h _ dg;have k:=Ns (ls:=ls) (fun x A=>h x (cz _ A));have z:∀l:List Slot,aq O id ls l l:=by
   intro l
   induction l with
   |nil=>exact .nil
   |cons s l C=>exact .cons (.of_eq (Dq s).symm) C
  cases B with
  |box T l E=>exact .box u (z l) k
  |arr T e xs=>exact .arr u k
  |mp e f m=>exact .mp u k
  |dp D x l=>exact .dp (by simpa using u) k
theorem Kp.sub{O:AS}{ls ts:List Nat}{g':List (Nat×Slot)}(h:Kp O.g ts g'):dj O id ls g':=by
 induction h with
 |n=>exact .nil
 |c h _ u=>exact .cons h (.of_eq (Dq _).symm) u
theorem Nt{r:Nat->Nat}:∀{d:List (Nat×XB)},Sj id (d.map (·.1))=true->∀x∈d,aY d x.1=some x.2
 | [],_,x,h=>by cases h
 | (i,z)::d,u,x,h=>by
  simp only[L4,Sj,K0,y8] at u;rw[cN];rcases B1.1 h with rfl | h
  ·simp
  ·rw[XV,Nt (r:=r) u.2 x h];intro e;have:=u.1 x.1 (fx.2 ⟨x,h,rfl⟩);simp[e] at this
section
variable {F:YP}{ops:Array aAi}{O O':AS}
theorem IM{ts dr:List Nat}{g':List (Nat×Slot)}{d':List (Nat×XB)}(hg:Kp O.g ts g')(hd:Nd dr O.d d'):Sub F O ⟨g',d'⟩:=
 Sub.mk id hg.sub (Ns fun x h=>(hd.spec _ _ (Nt (r:=id) hd.inj x h)).2) hd.inj
theorem J.kp(ts dr:List Nat){g':List (Nat×Slot)}{d':List (Nat×XB)}(hg:Kp O.g ts g':=by repeat (first | exact .n | (apply Kp.c;exact rfl)))
  (hd:Nd dr O.d d':=by repeat (first | exact .n | (apply Nd.c;exact rfl) | (apply Nd.s;exact rfl))):J F ops [] O ⟨g',d'⟩:=J.fin (IM hg hd)
theorem aC(r:List (Nat×Nat))(hg:dj O (rn r) (O'.d.map (·.1)) O'.g:=by repeat (first | exact .nil | refine .c rfl ?_ | refine .cons rfl (.N1 rfl rfl) ?_))
  (hd:K1 O (rn r) (O'.d.map (·.1)) O'.d:=by repeat (first | exact .nil | refine .arr rfl ?_ | refine .mp rfl ?_ | refine .dp rfl ?_ | refine .box rfl (by repeat (first | exact .nil | refine .c rfl ?_ | refine .cons (.N1 rfl rfl) ?_)) ?_ | refine .aTt rfl (by repeat (first | exact .nil | refine .c rfl ?_ | refine .cons (.N1 rfl rfl) ?_)) ?_))
  (hi:Sj (rn r) (O'.d.map (·.1))=true:=by rfl):Sub F O O':=Sub.mk (rn r) hg hd hi
end
end Go.Sw
namespace Go.Sw
open Go Go.RowKit
section
variable {F F':YP}{ops:Array aAi}{o:aAi}{os:List aAi}{O O' jk σ1:AS}{s s' s2:Slot}{new XJ:List (Nat×XB)}{Q:aAl->aAm->aAa->Prop}{cs:List aAj}{OK:List (Nat×XB)->Prop}{its:List l5}{id:Nat}
theorem J.g{t j:Nat}{want x:Bool}(hb:x=want)(h:JO F o O s new)(k:J F ops os (O.put o.dst s new) O')(g:o.guard= .some (j,want):=by rfl)(ht:(ops[j]?).bind (·.dst)= .some t:=by rfl)(hx:lk O.g t= .some (.v Wr.bool x):=by rfl)(hf:O.free new=true:=by rfl)(hd:gS o.dst F.N=true:=by rfl):J F ops (o::os) O O':=J.cons (.met t g ht hx hb) h hf hd k
theorem ZA.k(h:JO F o O s new)(k:ZA F ops OK os ⟨iV o.dst s O.g,new++O.d⟩ its O')(g:o.guard= .none:=by rfl)(hd:gS o.dst F.N=true:=by rfl):ZA F ops OK (o::os) O (⟨s,new,new,Li O.g o,[]⟩::its) O':= .cons (.none g) h hd k
theorem ZA.g{t j:Nat}{want x:Bool}(hb:x=want)(h:JO F o O s new)(k:ZA F ops OK os ⟨iV o.dst s O.g,new++O.d⟩ its O')(g:o.guard= .some (j,want):=by rfl)(ht:(ops[j]?).bind (·.dst)= .some t:=by rfl)(hx:lk O.g t= .some (.v Wr.bool x):=by rfl)(hd:gS o.dst F.N=true:=by rfl):ZA F ops OK (o::os) O (⟨s,new,new,Li O.g o,[]⟩::its) O':= .cons (.met t g ht hx hb) h hd k
theorem ZA.w{t j:Nat}{want x:Bool}(hb:x= !want)(k:ZA F ops OK os ⟨iV o.dst .top O.g,O.d⟩ its O')(g:o.guard= .some (j,want):=by rfl)(ht:(ops[j]?).bind (·.dst)= .some t:=by rfl)(hx:lk O.g t= .some (.v Wr.bool x):=by rfl)(hd:gS o.dst F.N=true:=by rfl):ZA F ops OK (o::os) O (⟨.top,[],[],Li O.g o,[]⟩::its) O':= .left (.M5 t g ht hx hb) hd k
def Ui(ops:Array aAi):List Nat:=ops.toList.foldl (fun h o=>h++[(Mu o).foldl (fun m j=>m ||| 1 <<< j ||| h.getD j 0) 0]) []
theorem VE(n:Nat)(hm:F.P.follows .mixedOrders=true)(hp:ZA F ops OK (ops.toList.take n) O its σ1)(ht:J F ops (ops.toList.drop n) σ1 O')(hOK:∀L,OK (Cg (fun i=>(its.getD i ⟨.top,[],[],[],[]⟩).nw) (fun i=>(its.getD i ⟨.top,[],[],[],[]⟩).dl) O.d n L))(k:W F cs O' Q)
  (hn:Nat.ble n ops.size=true:=by rfl) (Y5:Dm ops=true:=by decide+kernel) (hms:Yt ops (Ui ops)=true:=by decide+kernel) (dz:Hw ops n (Ui ops)=true:=by decide+kernel) (hcm:HV its (Ui ops)=true:=by kernel_rfl) (re:HW O its (Ui ops)=true:=by kernel_rfl):
  W F (.region id ops true::cs) O Q:=PV OK n (Ui ops) hm hp ht hn Y5 hms dz hcm re hOK k
theorem eD(n:Nat)(hm:F.P.follows .mixedOrders=true)(hp:ZA F ops (fun _=>True) (ops.toList.take n) O its σ1)(ht:J F ops (ops.toList.drop n) σ1 O')(k:W F cs O' Q)
  (hn:Nat.ble n ops.size=true:=by rfl) (Y5:Dm ops=true:=by decide+kernel) (hms:Yt ops (Ui ops)=true:=by decide+kernel) (dz:Hw ops n (Ui ops)=true:=by decide+kernel) (hcm:HV its (Ui ops)=true:=by kernel_rfl) (re:HW O its (Ui ops)=true:=by kernel_rfl):
  W F (.region id ops true::cs) O Q:=PV _ n (Ui ops) hm hp ht hn Y5 hms dz hcm re (fun _=>trivial) k
theorem eN{d:Option Tmp}{ty:aAb}{p:String}{af:Array Edge}{gd:Option (Nat×Bool)}{f:aAf}{xs:List aAc}{ts:Array aAb}{ss:List Slot}{res:Slot}{ZL XJ:(Nat->Nat)->List (Nat×XB)}{D:List (Nat×XB)}{K:List Nat}(H:List Nat)(r:Nat->Nat)(hr:∀i j,r i=r j->i=j)
  (hc:∀A,XA F.P f ss (ZL A) res (XJ A)) (ZE:∀args w,(callFunc f args).run F.P w= .ok (.enter f args) w) (I4:∀A,l3 O r A (XJ A) D K) (ha:E9 O r xs ss:=by repeat (first | exact .nil | refine .cons (.dir rfl) ?_))
  (F6:∀A,E5 O r A (ZL A):=by intro _;repeat (first | exact .nil | refine .box rfl ?_ | refine .arr rfl ?_ | refine .mp rfl ?_ | refine .dp rfl ?_))
  (hH:∀A,(ZL A).map (fun x=>r x.1)=H:=by intro _;rfl) (ZM:Bk O.g (jC O.d H) H K D=true:=by rfl) (U6:Ps O H D=true:=by rfl) (ZW:∀A,lG res (XJ A)=true:=by intro _;rfl) (lq:K.all (fun k=>iL k H)=true:=by rfl) (p8:gS d F.N=true:=by rfl):
  JM F ⟨d,.call ⟨.value (.func f),xs.toArray,ts⟩,ty,p,af,gd⟩ O ⟨iV d (res.map r) O.g,D++jC O.d H⟩:=tA r hr hc ZE ha F6 I4 hH ZM U6 ZW lq p8
theorem VF{ops:List aAi}{y:aAj}(h:J F ops.toArray ops O O')(k:W F (y::cs) O' Q):W F (.seq (.region id ops.toArray false) y::cs) O Q:=aF (eH h k)
theorem aU{c:Tmp}{x y:aAj}{b:Bool}{α:Type}{p q z:α}(h:(bif b then p else q)=z)(hb:lk O.g c=some (.v Wr.bool b))(ht:b=true->p=z->W F (x::cs) O Q)(hf:b=false->q=z->W F (y::cs) O Q):W F (.cond (.tmp c) x y::cs) O Q:=
 Gk hb (fun e=>ht e (by subst e;exact h)) fun e=>hf e (by subst e;exact h)
theorem cd{b:Bool}{α:Type}{p q z:α}{P:Prop}(h:(bif b then p else q)=z)(ht:b=true->p=z->P)(hf:b=false->q=z->P):P:=by
 cases b
 ·exact hf rfl h
 ·exact ht rfl h
section
variable {fn:Func}{res:Slot}{t t' t2:Nat}
theorem kX(g':List (Nat×Slot))(ex:List (Nat×XB))(hs:Sub F' O ⟨g',ex++XJ⟩)(k:XQ F' ⟨g',ex++XJ⟩ (Ab F fn res XJ) .ret):XQ F' O (Ab F fn res XJ) .ret:=cB hs k
theorem fA(hF:al F F')(F4:fn.results= #[.tmp t])(hs:Sub F' O ⟨[(t,res)],XJ⟩)(hn:G0 XJ XJ:=by repeat (first | exact .nil | refine .cons rfl ?_)):XQ F' O (Ab F fn res XJ) .ret:=cB hs (eM hF F4 (.tmp (by simp[lk])) hn)
theorem IN(hF:al F F')(F4:fn.results= #[.tmp t,.tmp t'])(hs:Sub F' O ⟨[(t,s),(t',s')],XJ⟩)(hn:G0 XJ XJ:=by repeat (first | exact .nil | refine .cons rfl ?_))(h:Nat.beq t t'=false:=by rfl):XQ F' O (Ab F fn (.XU [s,s']) XJ) .ret:=
 cB hs (eA hF F4 (.tmp (by simp[lk])) (.tmp (by simp only[lk,h,aC4,pF,YX])) hn)
theorem Nu(hF:al F F')(F4:fn.results= #[.tmp t,.tmp t',.tmp t2])(hs:Sub F' O ⟨[(t,s),(t',s'),(t2,s2)],XJ⟩)(hn:G0 XJ XJ:=by repeat (first | exact .nil | refine .cons rfl ?_))(h:Nat.beq t t'=false:=by rfl)(h2:Nat.beq t t2=false:=by rfl)(h3:Nat.beq t' t2=false:=by rfl):XQ F' O (Ab F fn (.XU [s,s',s2]) XJ) .ret:=
 cB hs (Ac hF F4 (.tmp (by simp[lk])) (.tmp (by simp only[lk,h,aC4,pF,YX])) (.tmp (by simp only[lk,h2,h3,aC4,pF,YX])) hn)
end
end
section
variable {F F':YP}{O:AS}{s s' s2 res:Slot}{new:List (Nat×XB)}{fn:Func}{t t' t2:Nat}
theorem wF(hF:al F F')(hR:∀k,¬F.R k)(F4:fn.results= #[.tmp t])(hs:Sub F' O ⟨[(t,res)],new⟩)(hn:G0 new new:=by repeat (first | exact .nil | refine .cons rfl ?_))(ZW:lG res new=true:=by rfl):
  XQ F' O (Pr F fn res new) .ret:=cB hs (aW hF hR F4 (.tmp (by simp[lk])) hn ZW)
theorem wX(hF:al F F')(hR:∀k,¬F.R k)(F4:fn.results= #[.tmp t,.tmp t'])(hs:Sub F' O ⟨[(t,s),(t',s')],new⟩)(hn:G0 new new:=by repeat (first | exact .nil | refine .cons rfl ?_))(ZW:lG (.XU [s,s']) new=true:=by rfl)(h:Nat.beq t t'=false:=by rfl):
  XQ F' O (Pr F fn (.XU [s,s']) new) .ret:=cB hs (bS hF hR F4 (.tmp (by simp[lk])) (.tmp (by simp only[lk,h,aC4,pF,YX])) hn ZW)
end
theorem sO{α:Type}{e:Wr α}{x:α}:N3 [.v e x] e x:=N3.one e x
theorem s2{α β:Type}{a:Wr α}{b:Wr β}{x:α}{y:β}:N3 ([.v a x]++[.v b y]) (Wr.pr a b) (x,y):= .F1 sO sO
theorem s3{α β γ:Type}{a:Wr α}{b:Wr β}{c:Wr γ}{x:α}{y:β}{z:γ}:N3 ([.v a x]++([.v b y]++[.v c z])) (Wr.pr a (Wr.pr b c)) (x,(y,z)):= .F1 sO s2
theorem s4{α β γ δ:Type}{a:Wr α}{b:Wr β}{c:Wr γ}{d:Wr δ}{x:α}{y:β}{z:γ}{u:δ}:N3 ([.v a x]++([.v b y]++([.v c z]++[.v d u]))) (Wr.pr a (Wr.pr b (Wr.pr c d))) (x,(y,(z,u))):= .F1 sO s3
theorem zI:∀S w,(Wr.int .i64).ok 0 S w [.int .i64 0]:=Z.int .i64
end Go.Sw
namespace Go.Sw
open Go Go.RowKit
def tl{α:Type}:List (Nat×α)->Nat->Option α
 | [],_=>none
 | (i,s)::r,t=>bif Nat.beq i t then some s else tl r t
inductive Tb {α:Type} (p:Nat->α->Prop):List (Nat×α)->Prop
 |n:Tb p []
 |c {i:Nat} {x:α} {l:List (Nat×α)}:p i x->Tb p l->Tb p ((i,x)::l)
theorem Tb.at{α:Type}{p:Nat->α->Prop}{l:List (Nat×α)}(h:Tb p l){i:Nat}{x:α}(hl:tl l i=some x):p i x:=by
 induction h with
 |n=>cases hl
 | @c j y l u _ z=>
  simp only[tl] at hl;cases hb:Nat.beq j i with
  |true=>rw[hb] at hl;cases hl;rw[<-D6 hb];exact u
  |false=>rw[hb] at hl;exact z hl
class fT (P:aAe) where
 ag:List (Nat×Bool)
 hg:Tb (fun T v=>∀w,(isAgg T).run P w= .ok v w) ag
 sz:List (Nat×Nat)
 hs:Tb (fun T v=>∀w,(sizeOf T).run P w= .ok v w) sz
 un:List (Nat×TypeDesc)
 hu:Tb (fun T v=>∀w,(underlying T).run P w= .ok v w) un
 et:aAb
section
variable {F:YP}{ops:Array aAi}{os:List aAi}{O O' σ1:AS}{s s0:Slot}{d:Option Tmp}{x y z c:aAc}{ty:aAb}{p:String}{af:Array Edge}{gd:Option (Nat×Bool)}{pb:Option Nat}
def JA(F:YP)(ops:Array aAi)(n:Nat)(os:List aAi)(O O':AS)(Q:Prop):Prop:=Q->J F ops os O O'
theorem JA.z0{Q:Prop}(h:Q->J F ops os O O'):JA F ops 0 os O O' Q:=h
def J1(F:YP)(ops:Array aAi)(o:aAi)(O σ1:AS):Prop:=∀{os:List aAi} {O':AS},J F ops os σ1 O'->J F ops (o::os) O O'
theorem JA.s1{Q:Prop}{n:Nat}{o:aAi}(h:J1 F ops o O σ1)(k:JA F ops n os σ1 O' Q):JA F ops (n+1) (o::os) O O' Q:=fun q=>h (k q)
theorem J1.o{o:aAi}{new:List (Nat×XB)}(h:JO F o O s new)(g:GK ops O.g o true)(hf:O.free new=true)(hd:gS o.dst F.N=true):J1 F ops o O (O.put o.dst s new):=fun k=>J.cons g h hf hd k
theorem J1.w{o:aAi}(g:GK ops O.g o false)(hd:gS o.dst F.N=true):J1 F ops o O (O.put o.dst .top []):=fun k=>J.left g hd k
theorem VG{o:aAi}(h:JM F o O σ1)(g:GK ops O.g o true):J1 F ops o O σ1:=fun k=>AV g h k
theorem TE{g:List (Nat×Slot)}{o:aAi}{j:Nat}{want:Bool}{t:Tmp}{x:Bool}(h:o.guard= .some (j,want))(ht:(ops[j]?).bind (·.dst)= .some t)(hx:lk g t= .some (.v Wr.bool x))(hb:x=want):GK ops g o true:= .met t h ht hx hb
theorem TF{g:List (Nat×Slot)}{o:aAi}{j:Nat}{want:Bool}{t:Tmp}{x:Bool}(h:o.guard= .some (j,want))(ht:(ops[j]?).bind (·.dst)= .some t)(hx:lk g t= .some (.v Wr.bool x))(hb:x= !want):GK ops g o false:= .M5 t h ht hx hb
section
variable {id:Nat}{cs:List aAj}{Q:aAl->aAm->aAa->Prop}
def JW(F:YP)(ops:Array aAi)(os:List aAi)(cs:List aAj)(O:AS)(Q:aAl->aAm->aAa->Prop):Prop:=∃O',J F ops os O O'/\W F cs O' Q
theorem eU{ops:List aAi}(h:JW F ops.toArray ops cs O Q):W F (.region id ops.toArray false::cs) O Q:=by
 obtain⟨_,h,k⟩:=h;exact eH h k
theorem JW.k{o:aAi}{new:List (Nat×XB)}(h:JO F o O s new)(k:JW F ops os cs (O.put o.dst s new) Q)(g:o.guard= .none:=by rfl)(hf:O.free new=true:=by rfl)(hd:gS o.dst F.N=true:=by rfl):JW F ops (o::os) cs O Q:=by
 obtain⟨u,z,k⟩:=k;exact⟨u,J.k h z g hf hd,k⟩
theorem JW.t{o:aAi}(h:JM F o O σ1)(k:JW F ops os cs σ1 Q)(g:o.guard= .none:=by rfl):JW F ops (o::os) cs O Q:=by
 obtain⟨u,z,k⟩:=k;exact⟨u,J.t h z g,k⟩
theorem JW.sub(h:Sub F O O')(k:JW F ops os cs O' Q):JW F ops os cs O Q:=by
 obtain⟨_,u,k⟩:=k;exact⟨_,J.sub h u,k⟩
end
section
theorem oL[tb:fT F.P]{T U:aAb}{l:List Slot}{i off:Nat}(hx:dH O.g x=some (.ptr i off))(he:aY O.d i=some (.box T l pb))(ho:nP l off=some s)(ha:tl tb.ag U=some s.ag)(hs:tl tb.sz U=some s.sz):JO F ⟨d,.load U x,ty,p,af,gd⟩ O s []:=aI hx he ho (tb.hg.at ha) (tb.hs.at hs)
theorem oF[tb:fT F.P]{U:aAb}{fs:Array aAh}{n i off m:Nat}{fl:aAh}(hx:dH O.g x=some (.ptr i off))(hu:tl tb.un U=some (.struct fs))(hf:fs[n]? =some fl)(hm:tl tb.sz fl.type=some m)(j5:Nat.beq m 0=false):JO F ⟨d,.fieldAddr U x n,ty,p,af,gd⟩ O (.ptr i (off+fl.offset)) []:=aB _ hx (tb.hu.at hu) hf (tb.hs.at hm) j5 (aC4 _)
theorem oE[tb:fT F.P]{α:Type}{e:Wr α}{xs:List α}{U E:aAb}(hx:dH O.g x=some (.v (Wr.sl e) xs))(hu:tl tb.un U=some (.slice E)):JO F ⟨d,.call ⟨.builtin .len,#[x],#[U]⟩,ty,p,af,gd⟩ O (.v (Wr.int .i64) xs.length) []:=tQ hx (tb.hu.at hu)
theorem WE[tb:fT F.P]{α:Type}{e:Wr α}{xs:List α}{T U E:aAb}{i:Nat}(hx:dH O.g x=some (.ref i))(he:aY O.d i=some (.arr T e xs))(hu:tl tb.un U=some (.slice E)):JO F ⟨d,.call ⟨.builtin .len,#[x],#[U]⟩,ty,p,af,gd⟩ O (.v (Wr.int .i64) xs.length) []:=Sh hx he (tb.hu.at hu)
theorem oP[tb:fT F.P]{α:Type}{e:Wr α}{v:α}{U:aAb}(hx:dH O.g x=some (.ZH e v))(ha:tl tb.ag U=some e.agg)(hs:tl tb.sz U=some e.n):JO F ⟨d,.load U x,ty,p,af,gd⟩ O (.v e v) []:=cG hx (tb.hg.at ha) (tb.hs.at hs)
theorem oI[tb:fT F.P]{α:Type}{e:Wr α}{xs:List α}{v:α}{U E:aAb}{k:aAg}{n:Int}(hx:dH O.g x=some (.v (Wr.sl e) xs))(hy:dH O.g y=some (.v (Wr.int k) n))(hz:Sw.idx xs n=some v)(hu:tl tb.un U=some (.slice E))(hm:tl tb.sz E=some e.n):JO F ⟨d,.indexAddr U x y,ty,p,af,gd⟩ O (.ZH e v) []:=pO hz hx hy (tb.hu.at hu) (tb.hs.at hm)
theorem oN[tb:fT F.P]{T U U':aAb}{o:Option Int}{ms:Array (String×aAb)}(hx:dH O.g x=some (.v (Wr.err T) o))(hu:tl tb.un U=some (.interface ms)):JO F ⟨d,.binOp .neq U x (.const .nilIface) U',ty,p,af,gd⟩ O (.v Wr.bool o.isSome) []:=HE (tb.hu.at hu) hx
theorem oK[tb:fT F.P]{T:aAb}{n:Int}(hx:dH O.g x=some (.v (Wr.int .i64) n))(hu:tl tb.un T=some (.int .i64)):JO F ⟨d,.makeInterface T x,ty,p,af,gd⟩ O (.v (Wr.err T) (some n)) []:=HC (tb.hu.at hu) hx
theorem oZ[tb:fT F.P]:JO F ⟨d,.assign (.const .nilIface),ty,p,af,gd⟩ O (.v (Wr.err tb.et) none) []:=zM _
theorem oV[tb:fT F.P]{A B:aAb}{da:TypeDesc}{k k':aAg}{n:Int}(hx:dH O.g x=some (.v (Wr.int k) n))(ha:tl tb.un A=some da)(hb:tl tb.un B=some (.int k')):JO F ⟨d,.convert A B x,ty,p,af,gd⟩ O (.v (Wr.int k') (k'.wrap n)) []:=AY (tb.hu.at ha) (tb.hu.at hb) hx
theorem oS[tb:fT F.P]{T U n:aAb}{l:List Slot}{i off:Nat}(hx:dH O.g x=some (.ptr i off))(he:aY O.d i=some (.box T l pb))(ho:nP l off=some s0)(hy:dH O.g y=some s)(hp:s.plain=true)(hn:tl tb.sz U=some n)(B4:Nat.beq s.sz n=true)(O0:Nat.beq s0.sz n=true):
  JM F ⟨none,.store U x y,ty,p,af,gd⟩ O ⟨O.g,(i,.box T (oC l off s) pb)::O.d⟩:=Uw hx he ho hy hp B4 O0 (tb.hs.at hn)
theorem oW[tb:fT F.P]{T U n:aAb}{l l':List Slot}{i:Nat}(hx:dH O.g x=some (.ptr i 0))(he:aY O.d i=some (.box T l pb))(hy:dH O.g y=some (.agg l'))(hn:tl tb.sz U=some n)(hl:(l.map Slot.sz).sum=n)(ae:(l'.map Slot.sz).sum=n)(hnt:l'.all Slot.plain=true):
  JM F ⟨none,.store U x y,ty,p,af,gd⟩ O ⟨O.g,(i,.box T l' pb)::O.d⟩:=Ko hx he hl hy ae hnt (tb.hs.at hn)
theorem oT{b:Bool}(hc:dH O.g c=some (.v Wr.bool b))(hb:b=true)(hx:dH O.g x=some s):JO F ⟨d,.pick c x y,ty,p,af,gd⟩ O s []:=xW hb hc hx
theorem oU{b:Bool}(hc:dH O.g c=some (.v Wr.bool b))(hb:b=false)(hx:dH O.g y=some s):JO F ⟨d,.pick c x y,ty,p,af,gd⟩ O s []:=uN hb hc hx
theorem jo{o:aAi}{new:List (Nat×XB)}(k:JO F o O s new:=by first
 | ((with_reducible apply aD);exact rfl)
 | ((with_reducible apply bN);exact rfl)
 | ((with_reducible apply oF);exact rfl;exact rfl;exact rfl;exact rfl;exact rfl)
 | ((with_reducible apply oL);exact rfl;exact rfl;exact rfl;exact rfl;exact rfl)
 | ((with_reducible apply jU);exact rfl;exact rfl;exact rfl)
 | ((with_reducible apply aK);exact rfl)
 | ((with_reducible apply bW);exact rfl;exact rfl)
 | ((with_reducible apply cZ);exact rfl;exact rfl;exact rfl)
 | ((with_reducible apply oE);exact rfl;exact rfl)
 | ((with_reducible apply oI);exact rfl;exact rfl;assumption;exact rfl;exact rfl)
 | ((with_reducible apply oP);exact rfl;exact rfl;exact rfl)
 | ((with_reducible apply oN);exact rfl;exact rfl)
 | ((with_reducible apply oT);exact rfl;(first | assumption | exact rfl);exact rfl)
 | ((with_reducible apply oU);exact rfl;(first | assumption | exact rfl);exact rfl)
 | ((with_reducible apply oZ))
 | ((with_reducible apply oK);exact rfl;exact rfl)
 | ((with_reducible apply oV);exact rfl;exact rfl;exact rfl)
 | ((with_reducible apply Ji);exact rfl)
 | ((with_reducible apply WE);exact rfl;exact rfl;exact rfl)):JO F o O s new:=k
theorem gk{g:List (Nat×Slot)}{o:aAi}(k:GK ops g o true:=by first
 |exact GK.none rfl
 |exact TE rfl rfl rfl (by first | assumption | exact rfl)):GK ops g o true:=k
theorem gu{g:List (Nat×Slot)}{o:aAi}(k:GK ops g o false:=by exact TF rfl rfl rfl (by first | assumption | exact rfl)):GK ops g o false:=k
theorem jm{o:aAi}(k:JM F o O σ1:=by first
 | ((with_reducible apply oS);exact rfl;exact rfl;exact rfl;exact rfl;exact rfl;exact rfl;exact rfl;exact rfl)
 | ((with_reducible apply oW);exact rfl;exact rfl;exact rfl;exact rfl;exact rfl;exact rfl;exact rfl)):JM F o O σ1:=k
theorem js{o:aAi}(k:J1 F ops o O σ1:=by first
 | (apply J1.o;exact jo;exact gk;exact rfl;exact rfl)
 | (apply J1.w;exact gu;exact rfl)
 | (apply VG;exact jm;exact gk)):J1 F ops o O σ1:=k
theorem ja(n:Nat){Q:Prop}(k:Q)(h:JA F ops n os O O' Q:=by
 repeat ((with_reducible apply JA.s1);exact js)
 exact JA.z0 fun q=>q):J F ops os O O':=h k
def JZ(F:YP)(ops:Array aAi)(ts:List Nat)(os:List aAi)(O O':AS):Prop:=J F ops os O O'
theorem JZ.s1{ts:List Nat}{o:aAi}(h:J1 F ops o O σ1)(k:JZ F ops ts os σ1 O'):JZ F ops ts (o::os) O O':=h k
theorem JZ.z0{ts:List Nat}{g':List (Nat×Slot)}{d':List (Nat×XB)}(hg:Kp O.g ts g')(hd:Nd [] O.d d'):JZ F ops ts [] O ⟨g',d'⟩:=J.fin (IM hg hd)
theorem jz(ts:List Nat)(h:JZ F ops ts os O O':=by
 repeat (apply JZ.s1;exact js)
 apply JZ.z0
 ·repeat (first | exact .n | (apply Kp.c;exact rfl))
 ·repeat (first | exact .n | (apply Nd.c;exact rfl) | (apply Nd.s;exact rfl))):J F ops os O O':=h
theorem jy(h:JZ F ops [] os O O':=by
 repeat (apply JZ.s1;exact js)
 exact J.fin (aC [])):J F ops os O O':=h
variable {OK:List (Nat×XB)->Prop}{it:l5}{its:List l5}{id:Nat}{cs:List aAj}{Q:aAl->aAm->aAa->Prop}
def P1(F:YP)(ops:Array aAi)(OK:List (Nat×XB)->Prop)(o:aAi)(O σ1:AS)(it:l5):Prop:=∀{os:List aAi} {O':AS} {its:List l5},ZA F ops OK os σ1 its O'->ZA F ops OK (o::os) O (it::its) O'
theorem P1.o{o:aAi}{new:List (Nat×XB)}(h:JO F o O s new)(g:GK ops O.g o true)(hd:gS o.dst F.N=true):P1 F ops OK o O ⟨iV o.dst s O.g,new++O.d⟩ ⟨s,new,new,Li O.g o,[]⟩:=fun k=> .cons g h hd k
theorem P1.w{o:aAi}(g:GK ops O.g o false)(hd:gS o.dst F.N=true):P1 F ops OK o O ⟨iV o.dst .top O.g,O.d⟩ ⟨.top,[],[],Li O.g o,[]⟩:=fun k=> .left g hd k
theorem TG[tb:fT F.P]{T U n:aAb}{l:List Slot}{i off:Nat}(g:GK ops O.g ⟨none,.store U x y,ty,p,af,gd⟩ true)(hx:dH O.g x=some (.ptr i off))(he:aY O.d i=some (.box T l pb))(ho:nP l off=some s0)(hy:dH O.g y=some s)(hp:s.plain=true)(hn:tl tb.sz U=some n)(B4:Nat.beq s.sz n=true)(O0:Nat.beq s0.sz n=true):
  P1 F ops OK ⟨none,.store U x y,ty,p,af,gd⟩ O ⟨O.g,(i,.box T (oC l off s) pb)::O.d⟩ ⟨.top,[(i,.box T (oC l off s) pb)],[],Li O.g ⟨none,.store U x y,ty,p,af,gd⟩,[]⟩:=fun k=>ZA.store g hx he ho hy hp B4 O0 (tb.hs.at hn) k
theorem p1{o:aAi}(k:P1 F ops OK o O σ1 it:=by first
 | (apply P1.o;exact jo;exact gk;exact rfl)
 | (apply P1.w;exact gu;exact rfl)
 | ((with_reducible apply TG);exact gk;exact rfl;exact rfl;exact rfl;exact rfl;exact rfl;exact rfl;exact rfl;exact rfl)):P1 F ops OK o O σ1 it:=k
theorem ZA.s1{o:aAi}(h:P1 F ops OK o O σ1 it)(k:ZA F ops OK os σ1 its O'):ZA F ops OK (o::os) O (it::its) O':=h k
theorem NJ(n:Nat)(ts:List Nat)(hm:F.P.follows .mixedOrders=true)(k:W F cs O' Q)(hp:ZA F ops (fun _=>True) (ops.toList.take n) O its σ1:=by
  repeat (apply ZA.s1;exact p1)
  exact .nil) (ht:JZ F ops ts (ops.toList.drop n) σ1 O':=by
  repeat (apply JZ.s1;exact js)
  apply JZ.z0
  ·repeat (first | exact .n | (apply Kp.c;exact rfl))
  ·repeat (first | exact .n | (apply Nd.c;exact rfl) | (apply Nd.s;exact rfl)))
  (hn:Nat.ble n ops.size=true:=by rfl) (Y5:Dm ops=true:=by decide+kernel) (hms:Yt ops (Ui ops)=true:=by decide+kernel) (dz:Hw ops n (Ui ops)=true:=by decide+kernel) (hcm:HV its (Ui ops)=true:=by kernel_rfl) (re:HW O its (Ui ops)=true:=by kernel_rfl):
  W F (.region id ops true::cs) O Q:=eD n hm hp ht k hn Y5 hms dz hcm re
theorem sQ(n:Nat)(hm:F.P.follows .mixedOrders=true)(k:W F cs O' Q)(hp:ZA F ops (fun _=>True) (ops.toList.take n) O its σ1:=by
  repeat (apply ZA.s1;exact p1)
  exact .nil) (ht:JZ F ops [] (ops.toList.drop n) σ1 O':=by
  repeat (apply JZ.s1;exact js)
  exact J.fin (aC []))
  (hn:Nat.ble n ops.size=true:=by rfl) (Y5:Dm ops=true:=by decide+kernel) (hms:Yt ops (Ui ops)=true:=by decide+kernel) (dz:Hw ops n (Ui ops)=true:=by decide+kernel) (hcm:HV its (Ui ops)=true:=by kernel_rfl) (re:HW O its (Ui ops)=true:=by kernel_rfl):
  W F (.region id ops true::cs) O Q:=eD n hm hp ht k hn Y5 hms dz hcm re
theorem JW.f(ts:List Nat)(k:W F cs O' Q)(h:JZ F ops ts os O O':=by
 repeat (apply JZ.s1;exact js)
 apply JZ.z0
 ·repeat (first | exact .n | (apply Kp.c;exact rfl))
 ·repeat (first | exact .n | (apply Nd.c;exact rfl) | (apply Nd.s;exact rfl))):JW F ops os cs O Q:=⟨_,h,k⟩
def JWA(F:YP)(ops:Array aAi)(n:Nat)(os:List aAi)(cs:List aAj)(O:AS)(Q:aAl->aAm->aAa->Prop)(R:Prop):Prop:=R->JW F ops os cs O Q
theorem JWA.s1{R:Prop}{n:Nat}{o:aAi}(h:J1 F ops o O σ1)(k:JWA F ops n os cs σ1 Q R):JWA F ops (n+1) (o::os) cs O Q R:=fun r=>by
 obtain⟨u,z,k⟩:=k r;exact⟨u,h z,k⟩
theorem JWA.z0:JWA F ops 0 os cs O Q (JW F ops os cs O Q):=fun r=>r
theorem JW.a(n:Nat){R:Prop}(k:R)(h:JWA F ops n os cs O Q R:=by
 repeat ((with_reducible apply JWA.s1);exact js)
 exact JWA.z0):JW F ops os cs O Q:=h k
theorem dT{ops:List aAi}(ts:List Nat)(k:W F cs O' Q)(h:JZ F ops.toArray ts ops O O':=by
 repeat (apply JZ.s1;exact js)
 apply JZ.z0
 ·repeat (first | exact .n | (apply Kp.c;exact rfl))
 ·repeat (first | exact .n | (apply Nd.c;exact rfl) | (apply Nd.s;exact rfl))):W F (.region id ops.toArray false::cs) O Q:=eH h k
theorem aL{ops:List aAi}{y:aAj}(ts:List Nat)(k:W F (y::cs) O' Q)(h:JZ F ops.toArray ts ops O O':=by
 repeat (apply JZ.s1;exact js)
 apply JZ.z0
 ·repeat (first | exact .n | (apply Kp.c;exact rfl))
 ·repeat (first | exact .n | (apply Nd.c;exact rfl) | (apply Nd.s;exact rfl))):W F (.seq (.region id ops.toArray false) y::cs) O Q:=aF (eH h k)
theorem cU{ops:List aAi}{y z:aAj}(ts:List Nat)(k:W F (y::z::cs) O' Q)(h:JZ F ops.toArray ts ops O O':=by
 repeat (apply JZ.s1;exact js)
 apply JZ.z0
 ·repeat (first | exact .n | (apply Kp.c;exact rfl))
 ·repeat (first | exact .n | (apply Nd.c;exact rfl) | (apply Nd.s;exact rfl))):W F (.seq (.seq (.region id ops.toArray false) y) z::cs) O Q:=aF (aF (eH h k))
theorem aJ{ops:List aAi}{y:aAj}(h:JW F ops.toArray ops (y::cs) O Q):W F (.seq (.region id ops.toArray false) y::cs) O Q:=aF (eU h)
theorem jQ{ops:List aAi}{y z:aAj}(h:JW F ops.toArray ops (y::z::cs) O Q):W F (.seq (.seq (.region id ops.toArray false) y) z::cs) O Q:=aF (aF (eU h))
end
end
end Go.Sw
namespace Go.Mo
open Go Go.Sw
abbrev aR:=List Int
abbrev aM:Wr aR:=Wr.arr 8 (Wr.int .u8)
def aQ:aR:=List.replicate 8 0
abbrev dJ:=((Unit×Unit) ⊕ ((Unit×Unit) ⊕ (Unit×Unit)))
abbrev gH(a p:Nat):Wr dJ:=(qO (Wr.R4 206 (Wr.B0 a) kP) (qO (Wr.R4 207 (Wr.B0 a) kP) (Wr.R4 208 kP (Wr.B0 p)) rfl rfl rfl rfl) rfl rfl rfl rfl)
abbrev dM:=((Unit×(Unit×Int)) ⊕ (Unit×Unit))
abbrev iH(a p:Nat):Wr dM:=(qO (Wr.R4 249 kP (Wr.pr (Wr.B0 p) (Wr.pt (Wr.int .u8)))) (Wr.R4 207 (Wr.B0 a) kP) rfl rfl rfl rfl)
abbrev aG:=((Unit×(Unit×(List (Int×aR)))) ⊕ ((Unit×(Unit×(Int×(Int×aR)))) ⊕ ((Unit×(Unit×(Int×(Int×aR)))) ⊕ ((Unit×Unit) ⊕ ((Unit×Unit) ⊕ ((Unit×Unit) ⊕ ((Unit×Unit) ⊕ (Unit×Unit))))))))
abbrev bP(a p:Nat):Wr aG:=(qO (Wr.R4 214 kP (Wr.pr (Wr.B0 p) (Wr.pt (Wr.sl (Wr.pr (Wr.int .i64) aM))))) (qO (Wr.R4 216 kP (Wr.pr (Wr.B0 p) (Wr.pr (Wr.pt (Wr.int .i64)) (Wr.pt (Wr.pr (Wr.int .i64) aM))))) (qO (Wr.R4 217 kP (Wr.pr (Wr.B0 p) (Wr.pr (Wr.pt (Wr.int .i64)) (Wr.pt (Wr.pr (Wr.int .i64) aM))))) (qO (Wr.R4 207 (Wr.B0 a) kP) (qO (Wr.R4 218 kP (Wr.B0 p)) (qO (Wr.R4 206 (Wr.B0 a) kP) (qO (Wr.R4 207 (Wr.B0 a) kP) (Wr.R4 219 kP (Wr.B0 p)) rfl rfl rfl rfl) rfl rfl rfl rfl) rfl rfl rfl rfl) rfl rfl rfl rfl) rfl rfl rfl rfl) rfl rfl rfl rfl) rfl rfl rfl rfl)
abbrev lW:=(Unit ⊕ (((Option ((List aR)×(List (aR×(List Int)))))) ⊕ (((List aR)) ⊕ (Unit ⊕ Unit))))
abbrev BX:Wr lW:=(vY 322 kP (vY 324 (Wr.N8 (Wr.G1 (Wr.pr (Wr.sl aM) (Wr.bd aM (Wr.sl (Wr.int .i64)))))) (vY 326 (Wr.N8 (Wr.sl aM)) (vY 327 kP NC rfl rfl) rfl rfl) rfl rfl) rfl rfl)
abbrev dP:=((List aR)×(List (Int×aR))×Int)
abbrev pI:=(Int×(List (Int×aR))×(List (Int×(List (Int×aR))))×Bool)
abbrev pP:=(Int×Int×(List (Int×(List Int)×(List aR))))
abbrev mP:=(List (Bool×Bool×(List Int)))
abbrev eG:=(List aR)
abbrev cX:=(List Int)
abbrev mT:=(List (Int×aR))
abbrev Pw:=(Int×Int×Int×aR)
abbrev sL:=(List (Int×eG))
abbrev qW:=(Int×Int)
abbrev xC:=(List (Int×cX×eG))
abbrev Lj:=(List (Int×aR×Int×Int×Int×eG))
abbrev sR:=(List (Int×mT))
abbrev eE:=(Option Int)
abbrev pZ:=(List Pw)
def lX(h u:Int):Option (Int):=
 jp (fun (A:Int)=>
  (nz u).bind fun _=>
   some (ar .rem .i64 A u)
  ) fun z=>
 bif (cm .lss h 0) then
  z (IntKind.wrap .i64 (0 - (ar .add .i64 h 1)))
 else
  z h
def uA(h:cX)(u:Int):Option (Int):=
 bif (cm .eql (h.length:Int) 0) then
  some (ar .mul .i64 u 31)
 else
  (nz (h.length:Int)).bind fun _=>
   (Sw.idx h (ar .rem .i64 u (h.length:Int))).bind fun z=>
    (lX z 1000003).bind fun A=>
     (nz (h.length:Int)).bind fun _=>
      some (ar .add .i64 A (ar .mul .i64 (ar .quo .i64 u (h.length:Int)) 7919))
def kU(z:cX)(A:Int):Option (aR):=
 (uA z A).bind fun u=>
  bif (cm .eql (ar .rem .i64 u 3) 0) then
   some aQ
  else
   (Sw.idx aQ 0).bind fun _=>
    jp (fun (C:aR)=>
     some C
     ) fun B=>
    bif (cm .eql (ar .rem .i64 u 3) 2) then
     lp (β:=aR) (fun (h:Int×aR)=>
      bif (cm .lss h.1 8) then
       (uA z (ar .add .i64 A h.1)).bind fun D=>
        (Sw.idx h.2 h.1).bind fun _=>
         some (.next ((ar .add .i64 h.1 1),(List.set h.2 (Int.toNat h.1) (IntKind.wrap .u8 (ar .quo .i64 D 7)))))
      else
       some (.done (.XT h.2))
      ) (1,(List.set aQ (Int.toNat 0) (IntKind.wrap .u8 (ar .add .i64 1 (ar .rem .i64 (ar .quo .i64 u 3) 5))))) fun (E:aR)=>
     B E
    else
     B (List.set aQ (Int.toNat 0) (IntKind.wrap .u8 (ar .add .i64 1 (ar .rem .i64 (ar .quo .i64 u 3) 5))))
def lP(B:cX)(C G z:Int):Option (pZ):=
 lp (β:=pZ) (fun (u:Int×pZ)=>
  bif (cm .lss u.1 G) then
   (uA B (ar .add .i64 C u.1)).bind fun h=>
    (nz z).bind fun _=>
     jp (fun (H:Bool)=>
      bif H then
       (kU B (ar .add .i64 C (ar .mul .i64 3 u.1))).bind fun I=>
        (Sw.app u.2 ([(0,(ar .rem .i64 (ar .quo .i64 h 40) z),(ar .rem .i64 (ar .quo .i64 h 7) 90),I)]:pZ)).bind fun K=>
         some (.next ((ar .add .i64 u.1 1),K))
      else
       bif (cm .eql (ar .rem .i64 h 20) 5) then
        (Sw.app u.2 ([(1,(ar .rem .i64 (ar .quo .i64 h 40) z),(ar .rem .i64 (ar .quo .i64 h 7) 90),aQ)]:pZ)).bind fun L=>
         some (.next ((ar .add .i64 u.1 1),L))
       else
        bif (cm .eql (ar .rem .i64 h 20) 6) then
         (Sw.app u.2 ([(2,(ar .rem .i64 (ar .quo .i64 h 40) z),(ar .rem .i64 (ar .quo .i64 h 7) 90),aQ)]:pZ)).bind fun M=>
          some (.next ((ar .add .i64 u.1 1),M))
        else
         jp (fun (N:Bool)=>
          bif N then
           (Sw.app u.2 ([(3,(ar .rem .i64 (ar .quo .i64 h 40) z),(ar .rem .i64 (ar .quo .i64 h 7) 90),aQ)]:pZ)).bind fun O=>
            some (.next ((ar .add .i64 u.1 1),O))
          else
           jp (fun (P:Bool)=>
            bif P then
             (Sw.app u.2 ([(4,(ar .rem .i64 (ar .quo .i64 h 40) z),(ar .rem .i64 (ar .quo .i64 h 7) 90),aQ)]:pZ)).bind fun Q=>
              some (.next ((ar .add .i64 u.1 1),Q))
            else
             jp (fun (R:Bool)=>
              bif R then
               (Sw.app u.2 ([(5,(ar .rem .i64 (ar .quo .i64 h 40) 7),(ar .rem .i64 (ar .quo .i64 h 7) 90),aQ)]:pZ)).bind fun S=>
                some (.next ((ar .add .i64 u.1 1),S))
              else
               bif (cm .eql (ar .rem .i64 h 20) 16) then
                (Sw.app u.2 ([(6,(ar .rem .i64 (ar .quo .i64 h 40) 7),(ar .rem .i64 (ar .quo .i64 h 7) 90),aQ)]:pZ)).bind fun T=>
                 some (.next ((ar .add .i64 u.1 1),T))
               else
                bif (cm .eql (ar .rem .i64 h 20) 17) then
                 (Sw.app u.2 ([(7,(ar .rem .i64 (ar .quo .i64 h 40) 7),(ar .rem .i64 (ar .quo .i64 h 7) 90),aQ)]:pZ)).bind fun U=>
                  some (.next ((ar .add .i64 u.1 1),U))
                else
                 bif (cm .eql (ar .rem .i64 h 20) 18) then
                  (kU B (ar .add .i64 C (ar .mul .i64 2 u.1))).bind fun V=>
                   (Sw.app u.2 ([(10,(ar .rem .i64 (ar .quo .i64 h 40) 7),(ar .rem .i64 (ar .quo .i64 h 7) 90),V)]:pZ)).bind fun X=>
                    some (.next ((ar .add .i64 u.1 1),X))
                 else
                  (Sw.app u.2 ([((ar .add .i64 8 (ar .rem .i64 (ar .quo .i64 h 40) 2)),(ar .rem .i64 (ar .quo .i64 h 40) z),(ar .rem .i64 (ar .quo .i64 h 7) 90),aQ)]:pZ)).bind fun aa=>
                   some (.next ((ar .add .i64 u.1 1),aa))
              ) fun D=>
             bif (cm .eql (ar .rem .i64 h 20) 13) then
              D (cm .eql (ar .rem .i64 h 20) 13)
             else
              bif (cm .eql (ar .rem .i64 h 20) 14) then
               D (cm .eql (ar .rem .i64 h 20) 14)
              else
               D (cm .eql (ar .rem .i64 h 20) 15)
            ) fun E=>
           bif (cm .eql (ar .rem .i64 h 20) 10) then
            E (cm .eql (ar .rem .i64 h 20) 10)
           else
            bif (cm .eql (ar .rem .i64 h 20) 11) then
             E (cm .eql (ar .rem .i64 h 20) 11)
            else
             E (cm .eql (ar .rem .i64 h 20) 12)
          ) fun F=>
         bif (cm .eql (ar .rem .i64 h 20) 7) then
          F (cm .eql (ar .rem .i64 h 20) 7)
         else
          bif (cm .eql (ar .rem .i64 h 20) 8) then
           F (cm .eql (ar .rem .i64 h 20) 8)
          else
           F (cm .eql (ar .rem .i64 h 20) 9)
      ) fun A=>
     bif (cm .eql (ar .rem .i64 h 20) 0) then
      A (cm .eql (ar .rem .i64 h 20) 0)
     else
      bif (cm .eql (ar .rem .i64 h 20) 1) then
       A (cm .eql (ar .rem .i64 h 20) 1)
      else
       bif (cm .eql (ar .rem .i64 h 20) 2) then
        A (cm .eql (ar .rem .i64 h 20) 2)
       else
        bif (cm .eql (ar .rem .i64 h 20) 3) then
         A (cm .eql (ar .rem .i64 h 20) 3)
        else
         A (cm .eql (ar .rem .i64 h 20) 4)
  else
   some (.done (.XT u.2))
  ) (0,([]:pZ)) fun (yw:pZ)=>
 some yw
def rX(h:Int):Option (Int×eE):=
 (bif (cm .lss h 1) then
  some true
 else
  some (cm .gtr h 32)).bind fun u=>
  bif u then
   some (0,(some 1))
  else
   some ((ar .add .i64 (ar .add .i64 (ar .add .i64 h 1) 2) (ar .mul .i64 2 (ar .add .i64 h 1))),(none:Option Int))
def xY(h:Int):Option (dP×eE):=
 (bif (cm .lss h 1) then
  some true
 else
  some (cm .gtr h 200)).bind fun u=>
  bif u then
   some ((([]:eG),([]:mT),0),(some 1))
  else
   (Sw.mk h aQ).bind fun z=>
    some ((z,([]:mT),(-1:Int)),(none:Option Int))
def rF(z:Int):Option (dP×eE):=
 (rX z).bind fun h=>
  bif (Option.isSome h.2) then
   some ((([]:eG),([]:mT),0),h.2)
  else
   (xY h.1).bind fun u=>
    some (u.1,u.2)
def lY(h:(Int×aR))(u:dP):Option (Bool):=
 (bif (cm .lss h.1 0) then
  some true
 else
  some (cm .geq h.1 (u.1.length:Int))).bind fun z=>
  some z
def dO(u:mT)(YY:dP):Option (Int):=
 lp (β:=Unit) (fun (h:Int)=>
  bif (cm .lss h (u.length:Int)) then
   (Sw.idx u h).bind fun z=>
    (lY z YY).bind fun A=>
     bif A then
      some (.done (.ret h))
     else
      some (.next (ar .add .i64 h 1))
  else
   some (.done (.XT ()))
  ) 0 fun (_:Unit)=>
 some (-1:Int)
def cJ(h:mT)(YY:dP):Option (Bool):=
 (dO h YY).bind fun u=>
  some (cm .geq u 0)
def mY(h:dP):Option (eE):=
 (bif (cm .lss (h.1.length:Int) 1) then
  some true
 else
  bif (cm .gtr (h.1.length:Int) 200) then
   some true
  else
   some (cm .gtr (h.2.1.length:Int) 800)).bind fun u=>
  bif u then
   some (some 2)
  else
   (cJ h.2.1 h).bind fun z=>
    bif z then
     some (some 1)
    else
     some (none:Option Int)
def kJ(h:(Bool×eG)):Option (eG):=
 bif h.1 then
  some ([]:eG)
 else
  (Sw.app ([]:eG) h.2).bind fun u=>
   some u
def aP(h:eG):Option eG:=Sw.app [] h
def fV(h:mT):Option (mT):=
 some h
def iW(h:dP)(u:Int):Option (aR×eE):=
 (mY h).bind fun z=>
  bif (Option.isSome z) then
   some (aQ,z)
  else
   (bif (cm .lss u 0) then
    some true
   else
    some (cm .geq u (h.1.length:Int))).bind fun C=>
    bif C then
     some (aQ,(some 1))
    else
     bif (cm .eql h.2.2 0) then
      some (aQ,(some 4))
     else
      (fV h.2.1).bind fun A=>
       (Sw.small A).bind fun _=>
        rg (δ:=aR) (fun (B:(Int×(Int×aR))) (_:Unit)=>
         bif (cm .eql B.2.1 u) then
          some (.done B.2.2)
         else
          some (.next ())
         ) (Sw.L3 A) () (fun (_:Unit)=>
         (Sw.idx h.1 u).bind fun D=>
          some (D,(none:Option Int))
         ) fun (E:aR)=>
         some (E,(none:Option Int))
def gR(h:aR):Option (Int):=
 (Sw.idx h 0).bind fun u=>
  (Sw.idx h 1).bind fun z=>
   (Sw.idx h 2).bind fun A=>
    (Sw.idx h 3).bind fun B=>
     some (ar .or .i64 (ar .or .i64 (ar .or .i64 (sh .shl .i64 u 24) (sh .shl .i64 z 16)) (sh .shl .i64 A 8)) B)
def lZ(h:(Bool×mT)):Option (mT):=
 bif h.1 then
  some ([]:mT)
 else
  (Sw.app ([]:mT) h.2).bind fun u=>
   some u
def bV(h:mT):Option mT:=Sw.app [] h
def rY(h:dP):Option (dP):=
 (aP h.1).bind fun u=>
  (bV h.2.1).bind fun z=>
   some (u,z,h.2.2)
def jN(XG:eG)(XP:mT)(ku:Int):Option (eE×eG×mT×Int):=
 bif (cm .eql ku 0) then
  some ((some 4),XG,XP,ku)
 else
  jp (fun (u:Int)=>
   some ((none:Option Int),XG,XP,u)
   ) fun h=>
  bif (cm .gtr ku 0) then
   h (ar .sub .i64 ku 1)
  else
   h ku
def rZ(u:dP)(z:Int)(C:aR):Option (dP×eE):=
 (mY u).bind fun B=>
  bif (Option.isSome B) then
   some ((([]:eG),([]:mT),0),B)
  else
   (bif (cm .lss z 0) then
    some true
   else
    some (cm .geq z (u.1.length:Int))).bind fun D=>
    bif D then
     some ((([]:eG),([]:mT),0),(some 1))
    else
     bif (cm .eql (u.2.1.length:Int) 800) then
      some ((([]:eG),([]:mT),0),(some 2))
     else
      (rY u).bind fun A=>
       (jN A.1 A.2.1 A.2.2).bind fun h=>
        bif (Option.isSome h.1) then
         some ((([]:eG),([]:mT),0),h.1)
        else
         (Sw.app h.2.2.1 ([(z,C)]:mT)).bind fun E=>
          some ((h.2.1,E,h.2.2.2),(none:Option Int))
def eF(XG:Int)(XP:dP)(z:Int)(A:aR):Option (eE×Int×dP):=
 (rZ XP z A).bind fun h=>
  jp (fun (B:dP)=>
   some (h.2,XG,B)
   ) fun u=>
  bif (Option.isNone h.2) then
   u h.1
  else
   u XP
def gU(XG:Int)(XP:dP):Option (eE×Int×dP):=
 (iW XP (ar .add .i64 XG 2)).bind fun C=>
  lp (β:=eE×Int×dP) (fun (h:eE×Int×Int×dP)=>
   (bif (Option.isNone h.1) then
    (gR C.1).bind fun F=>
     some (cm .lss h.2.1 F)
   else
    some false).bind fun G=>
    bif G then
     (iW h.2.2.2 (ar .add .i64 (ar .add .i64 h.2.2.1 3) (ar .mul .i64 2 h.2.1))).bind fun u=>
      jp (fun (z:eE×aR)=>
       bif (Option.isNone z.1) then
        (gR u.1).bind fun H=>
         (eF h.2.2.1 h.2.2.2 H z.2).bind fun A=>
          some (.next (A.1,(ar .add .i64 h.2.1 1),A.2.1,A.2.2))
       else
        some (.next (z.1,(ar .add .i64 h.2.1 1),h.2.2.1,h.2.2.2))
       ) fun D=>
      bif (Option.isNone u.2) then
       (iW h.2.2.2 (ar .add .i64 (ar .add .i64 h.2.2.1 4) (ar .mul .i64 2 h.2.1))).bind fun E=>
        D (E.2,E.1)
      else
       D (u.2,aQ)
    else
     some (.done (.XT (h.1,h.2.2.1,h.2.2.2)))
   ) (C.2,0,XG,XP) fun (B:eE×Int×dP)=>
  some (B.1,B.2.1,B.2.2)
def sA(B:dP):Option (dP×eE):=
 (mY B).bind fun C=>
  bif (Option.isSome C) then
   some ((([]:eG),([]:mT),0),C)
  else
   (rY B).bind fun z=>
    (jN z.1 z.2.1 z.2.2).bind fun h=>
     bif (Option.isSome h.1) then
      some ((([]:eG),([]:mT),0),h.1)
     else
      lp (β:=eG) (fun (u:Int×eG)=>
       bif (cm .lss u.1 (h.2.2.1.length:Int)) then
        (Sw.idx h.2.2.1 u.1).bind fun A=>
         (Sw.idx u.2 A.1).bind fun _=>
          some (.next ((ar .add .i64 u.1 1),(List.set u.2 (Int.toNat A.1) A.2)))
       else
        some (.done (.XT u.2))
       ) (0,h.2.1) fun (D:eG)=>
      some ((D,([]:mT),h.2.2.2),(none:Option Int))
def eX(XG:Int)(XP:dP):Option (eE×Int×dP):=
 (sA XP).bind fun h=>
  jp (fun (z:dP)=>
   some (h.2,XG,z)
   ) fun u=>
  bif (Option.isNone h.2) then
   u h.1
  else
   u XP
def iX(u di:Int)(iq:dP):Option (eE×Int×dP):=
 (eF di iq (ar .add .i64 di 1) ([u]++List.replicate 7 0:aR)).bind fun h=>
  some (h.1,h.2.1,h.2.2)
def lJ(q:dM)(n0:Int)(n1:dP):Option (eE×Int×dP):=match q with
 | .inl z=>iX z.2.2 n0 n1
 | .inr z=>eX n0 n1
def gL(z:(List dM))(YY:Int)(u3:dP):Option (eE×Int×dP):=
 lp (β:=Int×dP) (fun (h:Int×Int×dP)=>
  bif (cm .lss h.1 (z.length:Int)) then
   (Sw.idx z h.1).bind fun B=>
    (lJ B h.2.1 h.2.2).bind fun u=>
     bif (Option.isSome u.1) then
      some (.done (.ret (u.1,u.2.1,u.2.2)))
     else
      some (.next ((ar .add .i64 h.1 1),u.2.1,u.2.2))
  else
   some (.done (.XT (h.2.1,h.2.2)))
  ) (0,YY,u3) fun (A:Int×dP)=>
 some ((none:Option Int),A.1,A.2)
def fZ(XG:Int)(XP:dP)(u:Int):Option (eE×Int×dP):=
 (gL ([(.inl ((),((),u)):dM),(.inr ((),()):dM)]:(List dM)) XG XP).bind fun h=>
  some (h.1,h.2.1,h.2.2)
def mQ(YY:Int)(u3:dP):Option (eE×Int×dP):=
 (fZ YY u3 0).bind fun h=>
  some (h.1,h.2.1,h.2.2)
def nJ(q:dJ)(n0:Int)(n1:dP):Option (eE×Int×dP):=match q with
 | .inl z=>gU n0 n1
 | .inr (.inl z)=>eX n0 n1
 | .inr (.inr z)=>mQ n0 n1
def jB(z:(List dJ))(YY:Int)(u3:dP):Option (eE×Int×dP):=
 lp (β:=Int×dP) (fun (h:Int×Int×dP)=>
  bif (cm .lss h.1 (z.length:Int)) then
   (Sw.idx z h.1).bind fun B=>
    (nJ B h.2.1 h.2.2).bind fun u=>
     bif (Option.isSome u.1) then
      some (.done (.ret (u.1,u.2.1,u.2.2)))
     else
      some (.next ((ar .add .i64 h.1 1),u.2.1,u.2.2))
  else
   some (.done (.XT (h.2.1,h.2.2)))
  ) (0,YY,u3) fun (A:Int×dP)=>
 some ((none:Option Int),A.1,A.2)
def iY(XG:Int)(XP:dP):Option (eE×Int×dP):=
 (iW XP (ar .add .i64 XG 1)).bind fun h=>
  (bif (Option.isSome h.2) then
   some true
  else
   (Sw.idx h.1 0).bind fun z=>
    some (cm .eql z 0)).bind fun A=>
   bif A then
    some (h.2,XG,XP)
   else
    (jB ([(.inl ((),()):dJ),(.inr (.inl ((),())):dJ),(.inr (.inr ((),())):dJ)]:(List dJ)) XG XP).bind fun u=>
     some (u.1,u.2.1,u.2.2)
def mZ(h:dP)(A:Int):Option ((Option (Int×dP))×eE):=
 (rX A).bind fun z=>
  bif (Option.isSome z.2) then
   some ((none:(Option (Int×dP))),z.2)
  else
   (mY h).bind fun B=>
    (bif (Option.isSome B) then
     some true
    else
     bif (cm .neq (h.1.length:Int) z.1) then
      some true
     else
      some (cm .gtr (h.2.1.length:Int) 0)).bind fun C=>
     bif C then
      some ((none:(Option (Int×dP))),(some 5))
     else
      (aP h.1).bind fun D=>
       (iY A (D,([]:mT),h.2.2)).bind fun u=>
        bif (Option.isSome u.1) then
         some ((none:(Option (Int×dP))),u.1)
        else
         some ((some (u.2.1,u.2.2)),(none:Option Int))
def jG(z:Int):Option ((Option (Int×dP))×eE):=
 (rF z).bind fun h=>
  bif (Option.isSome h.2) then
   some ((none:(Option (Int×dP))),h.2)
  else
   (mZ h.1 z).bind fun u=>
    vF u.1 (
     some ((none:(Option (Int×dP))),u.2)
     ) fun A=>
     some ((some (A.1,A.2)),u.2)
def gA(u:(Int×dP)):Option (Int×Int×eE):=
 (iW u.2 u.1).bind fun h=>
  bif (Option.isSome h.2) then
   some (0,0,h.2)
  else
   (gR h.1).bind fun z=>
    (Sw.aw h.1 4 8 8).bind fun A=>
     (Sw.sub h.1 0 4).bind fun B=>
      (Sw.app A B).bind fun C=>
       (Sw.C7 8 C).bind fun D=>
        (gR D).bind fun E=>
         some (z,E,(none:Option Int))
def jH(h:(Int×aR))(u:(Option (Int×dP))):Option (Bool):=
 (bif (cm .lss h.1 0) then
  some true
 else
  (u).bind fun z=>
   some (cm .geq h.1 z.1)).bind fun A=>
  some A
def cS(u:mT)(YY:(Option (Int×dP))):Option (Int):=
 lp (β:=Unit) (fun (h:Int)=>
  bif (cm .lss h (u.length:Int)) then
   (Sw.idx u h).bind fun z=>
    (jH z YY).bind fun A=>
     bif A then
      some (.done (.ret h))
     else
      some (.next (ar .add .i64 h 1))
  else
   some (.done (.XT ()))
  ) 0 fun (_:Unit)=>
 some (-1:Int)
def bZ(h:mT)(YY:(Option (Int×dP))):Option (Bool):=
 (cS h YY).bind fun u=>
  some (cm .geq u 0)
def kK(h:Int):Option (aR):=
 some ([(IntKind.wrap .u8 (sh .shr .i64 h 24)),(IntKind.wrap .u8 (sh .shr .i64 h 16)),(IntKind.wrap .u8 (sh .shr .i64 h 8)),(IntKind.wrap .u8 h)]++List.replicate 4 0:aR)
def gX(u:mT)(di:Int)(iq:dP):Option (eE×Int×dP):=
 (kK (u.length:Int)).bind fun z=>
  (eF di iq (ar .add .i64 di 2) z).bind fun h=>
   some (h.1,h.2.1,h.2.2)
def gY(u:Int)(z:(Int×aR))(dh:Int)(im:dP):Option (eE×Int×dP):=
 (kK z.1).bind fun A=>
  (eF dh im (ar .add .i64 (ar .add .i64 dh 3) (ar .mul .i64 2 u)) A).bind fun h=>
   some (h.1,h.2.1,h.2.2)
def gZ(u:Int)(z:(Int×aR))(dh:Int)(im:dP):Option (eE×Int×dP):=
 (eF dh im (ar .add .i64 (ar .add .i64 dh 4) (ar .mul .i64 2 u)) z.2).bind fun h=>
  some (h.1,h.2.1,h.2.2)
def hC(YY:Int)(u3:dP):Option (eE×Int×dP):=
 (fZ YY u3 1).bind fun h=>
  some (h.1,h.2.1,h.2.2)
def hO(YY:Int)(u3:dP):Option (eE×Int×dP):=
 (fZ YY u3 0).bind fun h=>
  some (h.1,h.2.1,h.2.2)
def iM(q:aG)(n0:Int)(n1:dP):Option (eE×Int×dP):=match q with
 | .inl z=>gX z.2.2 n0 n1
 | .inr (.inl z)=>gY z.2.2.1 z.2.2.2 n0 n1
 | .inr (.inr (.inl z))=>gZ z.2.2.1 z.2.2.2 n0 n1
 | .inr (.inr (.inr (.inl z)))=>eX n0 n1
 | .inr (.inr (.inr (.inr (.inl z))))=>hC n0 n1
 | .inr (.inr (.inr (.inr (.inr (.inl z)))))=>gU n0 n1
 | .inr (.inr (.inr (.inr (.inr (.inr (.inl z))))))=>eX n0 n1
 | .inr (.inr (.inr (.inr (.inr (.inr (.inr z))))))=>hO n0 n1
def eV(z:(List aG))(YY:Int)(u3:dP):Option (eE×Int×dP):=
 lp (β:=Int×dP) (fun (h:Int×Int×dP)=>
  bif (cm .lss h.1 (z.length:Int)) then
   (Sw.idx z h.1).bind fun B=>
    (iM B h.2.1 h.2.2).bind fun u=>
     bif (Option.isSome u.1) then
      some (.done (.ret (u.1,u.2.1,u.2.2)))
     else
      some (.next ((ar .add .i64 h.1 1),u.2.1,u.2.2))
  else
   some (.done (.XT (h.2.1,h.2.2)))
  ) (0,YY,u3) fun (A:Int×dP)=>
 some ((none:Option Int),A.1,A.2)
def dA(XG:Int)(XP:dP)(u:mT)(z A:Int):Option (eE×Int×dP):=
 bif (cm .gtr (u.length:Int) XG) then
  some ((some 2),XG,XP)
 else
  (bif (cm .lss (min z A) 0) then
   some true
  else
   bif (cm .gtr (max z A) 2147483647) then
    some true
   else
    (bZ u (some (XG,XP))).bind fun E=>
     some E).bind fun F=>
   bif F then
    some ((some 1),XG,XP)
   else
    (kK z).bind fun G=>
     (kK A).bind fun H=>
      (bV u).bind fun I=>
       (Sw.aw G 0 4 4).bind fun K=>
        (Sw.sub H 0 4).bind fun L=>
         (Sw.app K L).bind fun M=>
          (Sw.C7 8 M).bind fun N=>
           (Sw.app I ([(XG,N)]:mT)).bind fun B=>
            lp (β:=(List aG)) (fun (h:Int×(List aG))=>
             bif (cm .lss h.1 (B.length:Int)) then
              (Sw.idx B h.1).bind fun D=>
               (Sw.app h.2 ([(.inr (.inl ((),((),(h.1,D)))):aG),(.inr (.inr (.inl ((),((),(h.1,D))))):aG)]:(List aG))).bind fun O=>
                some (.next ((ar .add .i64 h.1 1),O))
             else
              some (.done (.XT h.2))
             ) (0,([(.inl ((),((),B)):aG)]:(List aG))) fun (P:(List aG))=>
            (Sw.app P ([(.inr (.inr (.inr (.inl ((),())))):aG),(.inr (.inr (.inr (.inr (.inl ((),()))))):aG),(.inr (.inr (.inr (.inr (.inr (.inl ((),())))))):aG),(.inr (.inr (.inr (.inr (.inr (.inr (.inl ((),()))))))):aG),(.inr (.inr (.inr (.inr (.inr (.inr (.inr ((),()))))))):aG)]:(List aG))).bind fun Q=>
             (eV Q XG XP).bind fun C=>
              some (C.1,C.2.1,C.2.2)
def jI(b0 B z A:Int)(C:eG)(D:pI)(E:sL)(F:Int)(G:pP)(H YG:Int)(YF:cX)(YN YB YK YE:Int)(YJ:qW)(XZ:mP)(YW:Int)(YV:dP):Option (eE×Int×Int×Int×dP):=
 (gA (YW,YV)).bind fun h=>
  bif (Option.isSome h.2.2) then
   some (h.2.2,z,A,YW,YV)
  else
   (dA YW YV ([]:mT) h.1 (ar .add .i64 h.2.1 1)).bind fun u=>
    some (u.1,h.1,(ar .add .i64 h.2.1 1),u.2.1,u.2.2)
def kQ(u:(Int×dP))(h:Int):Option (aR×eE):=
 (bif (cm .lss h 0) then
  some true
 else
  some (cm .geq h u.1)).bind fun A=>
  bif A then
   some (aQ,(some 1))
  else
   (iW u.2 h).bind fun z=>
    some (z.1,z.2)
def gE(z:(Int×dP)):Option (eG×eE):=
 lp (β:=eG) (fun (h:Int×eG)=>
  bif (cm .lss h.1 z.1) then
   (kQ z h.1).bind fun u=>
    bif (Option.isSome u.2) then
     some (.done (.ret (([]:eG),u.2)))
    else
     (Sw.app h.2 ([u.1]:eG)).bind fun A=>
      some (.next ((ar .add .i64 h.1 1),A))
  else
   some (.done (.XT h.2))
  ) (0,([]:eG)) fun (B:eG)=>
 some (B,(none:Option Int))
def fS(b0 C h D:Int)(u:eG)(E:pI)(z:sL)(F:Int)(G:pP)(H YG:Int)(YF:cX)(YN YB YK YE:Int)(YJ:qW)(XZ:mP)(YW:Int)(YV:dP):Option (sL):=
 (aP u).bind fun A=>
  (Hr z h A).bind fun B=>
   some (Gt B (ar .sub .i64 (ar .sub .i64 h 4) 1))
def fG(b0 A B C:Int)(D:eG)(E:pI)(F:sL)(G:Int)(H:pP)(I YG:Int)(YF:cX)(YN YB YK YE:Int)(YJ:qW)(XZ:mP)(YW:Int)(YV:dP):Option (eE×Int×Int×Int×eG×pI×sL×Int×pP×Int×Int×cX×Int×dP):=
 (jI b0 b0 0 0 ([]:eG) (0,([]:mT),([]:sR),false) ([]:List (Int×eG)) (-1:Int) (0,0,([]:xC)) 0 0 ([]:cX) YN YB YK YE YJ XZ YW YV).bind fun h=>
  bif (Option.isSome h.1) then
   some (h.1,b0,h.2.1,h.2.2.1,([]:eG),(0,([]:mT),([]:sR),false),([]:List (Int×eG)),(-1:Int),(0,0,([]:xC)),0,0,([]:cX),h.2.2.2.1,h.2.2.2.2)
  else
   (gE h.2.2.2).bind fun u=>
    (fS b0 b0 h.2.1 h.2.2.1 u.1 (h.2.1,([]:mT),([]:sR),true) ([]:List (Int×eG)) (-1:Int) (0,0,([]:xC)) 0 0 ([]:cX) YN YB YK YE YJ XZ h.2.2.2.1 h.2.2.2.2).bind fun z=>
     some (u.2,b0,h.2.1,h.2.2.1,u.1,(h.2.1,([]:mT),([]:sR),true),z,(-1:Int),(0,0,([]:xC)),0,0,([]:cX),h.2.2.2.1,h.2.2.2.2)
def gI(b0 z A B:Int)(C:eG)(D:pI)(E:sL)(F:Int)(G:pP)(H YG:Int)(YF:cX)(YN YB YK YE:Int)(YJ:qW)(XZ:mP)(YW:Int)(YV:dP)(YU:Int)(YT:dP):Option (eE×Int×Int×Int×dP):=
 (gA (YU,YT)).bind fun h=>
  bif (Option.isSome h.2.2) then
   some (h.2.2,YB,YK,YU,YT)
  else
   (dA YU YT ([]:mT) h.1 (ar .add .i64 h.2.1 1)).bind fun u=>
    some (u.1,h.1,(ar .add .i64 h.2.1 1),u.2.1,u.2.2)
def gP(b0 u z A:Int)(B:eG)(C:pI)(D:sL)(E:Int)(F:pP)(G YG:Int)(YF:cX)(YN YB YK YE:Int)(YJ:qW)(XZ:mP)(YW:Int)(YV:dP)(YU:Int)(YT:dP):Option (eE×Int×Int×Int×Int×qW×Int×dP):=
 (gI b0 u z A B C D E F G YG YF b0 0 0 (-1:Int) (0,0) XZ YW YV YU YT).bind fun h=>
  some (h.1,b0,h.2.1,h.2.2.1,(-1:Int),(0,0),h.2.2.2.1,h.2.2.2.2)
def iN(u:Int):Option ((Option (Int×Int×Int×Int×eG×pI×sL×Int×pP×Int×Int×cX×Int×Int×Int×Int×qW×mP×Int×dP×Int×dP))×eE):=
 (jG u).bind fun A=>
  vF A.1 (
   bif (Option.isSome A.2) then
    some ((none:_),A.2)
   else
    (jG u).bind fun B=>
     vF B.1 (
      bif (Option.isSome B.2) then
       some ((none:_),B.2)
      else
       none
      ) fun _=>
      bif (Option.isSome B.2) then
       some ((none:_),B.2)
      else
       none
   ) fun D=>
   bif (Option.isSome A.2) then
    some ((none:_),A.2)
   else
    (jG u).bind fun C=>
     vF C.1 (
      bif (Option.isSome C.2) then
       some ((none:_),C.2)
      else
       (fG u u 0 0 ([]:eG) (0,([]:mT),([]:sR),false) ([]:sL) 0 (0,0,([]:xC)) 0 0 ([]:cX) u 0 0 0 (0,0) ([]:mP) D.1 D.2).bind fun E=>
        bif (Option.isSome E.1) then
         some ((none:_),E.1)
        else
         none
      ) fun F=>
      bif (Option.isSome C.2) then
       some ((none:_),C.2)
      else
       (fG u u 0 0 ([]:eG) (0,([]:mT),([]:sR),false) ([]:sL) 0 (0,0,([]:xC)) 0 0 ([]:cX) u 0 0 0 (0,0) ([]:mP) D.1 D.2).bind fun h=>
        bif (Option.isSome h.1) then
         some ((none:_),h.1)
        else
         (gP u h.2.1 h.2.2.1 h.2.2.2.1 h.2.2.2.2.1 h.2.2.2.2.2.1 h.2.2.2.2.2.2.1 h.2.2.2.2.2.2.2.1 h.2.2.2.2.2.2.2.2.1 h.2.2.2.2.2.2.2.2.2.1 h.2.2.2.2.2.2.2.2.2.2.1 h.2.2.2.2.2.2.2.2.2.2.2.1 u 0 0 0 (0,0) ([]:mP) h.2.2.2.2.2.2.2.2.2.2.2.2.1 h.2.2.2.2.2.2.2.2.2.2.2.2.2 F.1 F.2).bind fun z=>
          some ((some (u,h.2.1,h.2.2.1,h.2.2.2.1,h.2.2.2.2.1,h.2.2.2.2.2.1,h.2.2.2.2.2.2.1,h.2.2.2.2.2.2.2.1,h.2.2.2.2.2.2.2.2.1,h.2.2.2.2.2.2.2.2.2.1,h.2.2.2.2.2.2.2.2.2.2.1,h.2.2.2.2.2.2.2.2.2.2.2.1,z.2.1,z.2.2.1,z.2.2.2.1,z.2.2.2.2.1,z.2.2.2.2.2.1,([]:mP),h.2.2.2.2.2.2.2.2.2.2.2.2.1,h.2.2.2.2.2.2.2.2.2.2.2.2.2,z.2.2.2.2.2.2.1,z.2.2.2.2.2.2.2)),z.1)
def uP(h:Int):Option (Nat):=
 bif (cm .eql h 0) then
  some (0:Nat)
 else
  bif (cm .eql h 1) then
   some (1:Nat)
  else
   bif (cm .eql h 2) then
    some (2:Nat)
   else
    bif (cm .eql h 3) then
     some (3:Nat)
    else
     bif (cm .eql h 4) then
      some (4:Nat)
     else
      bif (cm .eql h 5) then
       some (5:Nat)
      else
       bif (cm .eql h 6) then
        some (6:Nat)
       else
        bif (cm .eql h 7) then
         some (7:Nat)
        else
         bif (cm .eql h 8) then
          some (8:Nat)
         else
          bif (cm .eql h 9) then
           some (9:Nat)
          else
           bif (cm .eql h 10) then
            some (10:Nat)
           else
            some (11:Nat)
def mB(z:mT)(A:Int):Option (Bool):=
 lp (β:=Unit) (fun (h:Int×Int)=>
  bif (cm .lss h.2 (z.length:Int)) then
   (Sw.idx z h.2).bind fun u=>
    (bif (cm .leq u.1 h.1) then
     some true
    else
     some (cm .geq u.1 A)).bind fun B=>
     bif B then
      some (.done (.ret false))
     else
      some (.next (u.1,(ar .add .i64 h.2 1)))
  else
   some (.done (.XT ()))
  ) ((-1:Int),0) fun (_:Unit)=>
 some true
def lN(h:pI)(u:Int):Option (eE):=
 (bif (cm .lss u 1) then
  some true
 else
  bif (cm .gtr u 32) then
   some true
  else
   bif (cm .lss h.1 0) then
    some true
   else
    some (cm .gtr h.1 2147483647)).bind fun B=>
  bif B then
   some (some 1)
  else
   bif (cm .gtr (h.2.2.1.length:Int) 4) then
    some (some 2)
   else
    ((mB h.2.1 u).bind fun C=>
     bif (!C) then
      some true
     else
      bif h.2.2.2 then
       some (cm .gtr (h.2.2.1.length:Int) 0)
      else
       some false).bind fun D=>
     bif D then
      some (some 3)
     else
      lp (β:=Unit) (fun (z:Int)=>
       bif (cm .lss z (h.2.2.1.length:Int)) then
        (Sw.idx h.2.2.1 z).bind fun A=>
         ((mB A.2 u).bind fun E=>
          bif (!E) then
           some true
          else
           bif (cm .neq A.1 (ar .add .i64 (ar .add .i64 (ar .sub .i64 h.1 (h.2.2.1.length:Int)) 1) z)) then
            some true
           else
            some (cm .lss A.1 1)).bind fun F=>
          bif F then
           some (.done (.ret (some 3)))
          else
           some (.next (ar .add .i64 z 1))
       else
        some (.done (.XT ()))
       ) 0 fun (_:Unit)=>
      some (none:Option Int)
def jJ(h:(Bool×sR)):Option (sR):=
 bif h.1 then
  some ([]:sR)
 else
  (Sw.app ([]:sR) h.2).bind fun u=>
   some u
def gQ(h:sR):Option sR:=Sw.app [] h
def nK(u:pI):Option (pI):=
 (bV u.2.1).bind fun A=>
  (gQ u.2.2.1).bind fun z=>
   lp (β:=sR) (fun (h:Int×sR)=>
    bif (cm .lss h.1 (z.length:Int)) then
     (Sw.idx h.2 h.1).bind fun B=>
      (bV B.2).bind fun C=>
       (Sw.idx h.2 h.1).bind fun D=>
        some (.next ((ar .add .i64 h.1 1),(List.set h.2 (Int.toNat h.1) (D.1,C))))
    else
     some (.done (.XT h.2))
    ) (0,z) fun (E:sR)=>
   some (u.1,A,E,u.2.2.2)
def tB(h:(Int×aR))(u:Int):Option (Int):=
 some (ar .sub .i64 h.1 u)
def cA(u:mT)(A:Int):Option (Int×Bool):=
 lp (β:=Int) (fun (h:Int×Int)=>
  bif (cm .lss h.1 h.2) then
   (Sw.idx u (IntKind.wrap .i64 (sh .shr .u64 (IntKind.wrap .u64 (ar .add .i64 h.1 h.2)) 1))).bind fun B=>
    (tB B A).bind fun C=>
     bif (cm .lss C 0) then
      some (.next ((ar .add .i64 (IntKind.wrap .i64 (sh .shr .u64 (IntKind.wrap .u64 (ar .add .i64 h.1 h.2)) 1)) 1),h.2))
     else
      some (.next (h.1,(IntKind.wrap .i64 (sh .shr .u64 (IntKind.wrap .u64 (ar .add .i64 h.1 h.2)) 1))))
  else
   some (.done (.XT h.1))
  ) (0,(u.length:Int)) fun (z:Int)=>
 (bif (cm .lss z (u.length:Int)) then
  (Sw.idx u z).bind fun D=>
   (tB D A).bind fun E=>
    some (cm .eql E 0)
 else
  some false).bind fun F=>
  some (z,F)
def gM(h:mT)(u:Int)(z:mT):Option (mT):=Sw.ins h u z
def uB(A:pI)(B:Int)(u:(Int×aR)):Option (pI×eE):=
 (lN A B).bind fun C=>
  bif (Option.isSome C) then
   some ((0,([]:mT),([]:sR),false),C)
  else
   (bif (cm .lss u.1 0) then
    some true
   else
    some (cm .geq u.1 B)).bind fun E=>
    bif E then
     some ((0,([]:mT),([]:sR),false),(some 1))
    else
     (nK A).bind fun h=>
      (cA h.2.1 u.1).bind fun z=>
       jp (fun (F:mT)=>
        some ((h.1,F,h.2.2.1,h.2.2.2),(none:Option Int))
        ) fun D=>
       bif z.2 then
        (Sw.idx h.2.1 z.1).bind fun _=>
         D (List.set h.2.1 (Int.toNat z.1) u)
       else
        (gM h.2.1 z.1 ([u]:mT)).bind fun G=>
         D G
def eY(h:Int)(A:aR)(b0 C D E:Int)(u:eG)(B:pI)(F:sL)(G:Int)(H:pP)(I YG:Int)(YF:cX)(YN YB YK YE:Int)(YJ:qW)(XZ:mP)(YW:Int)(YV:dP)(YU:Int)(YT:dP):Option (eE×eG×pI):=
 (uB B b0 (h,A)).bind fun z=>
  bif (Option.isSome z.2) then
   some (z.2,u,B)
  else
   (Sw.idx u h).bind fun _=>
    some ((none:Option Int),(List.set u (Int.toNat h) A),z.1)
def nT(u:Pw)(b0 z A B:Int)(G:eG)(H:pI)(C:sL)(D:Int)(E:pP)(F YG:Int)(YF:cX)(YN YB YK YE:Int)(YJ:qW)(XZ:mP)(YW:Int)(YV:dP)(YU:Int)(YT:dP):Option (aR×eE×Int×Int×Int×Int×eG×pI×sL×Int×pP×Int×Int×cX×Int×Int×Int×Int×qW×mP×Int×dP×Int×dP):=
 (eY u.2.1 u.2.2.2 b0 z A B G H C D E F YG YF YN YB YK YE YJ XZ YW YV YU YT).bind fun h=>
  some (aQ,h.1,b0,z,A,B,h.2.1,h.2.2,C,D,E,F,YG,YF,YN,YB,YK,YE,YJ,XZ,YW,YV,YU,YT)
def nU(F:Pw)(b0 u z A:Int)(G:eG)(H:pI)(B:sL)(C:Int)(D:pP)(E YG:Int)(YF:cX)(YN YB YK YE:Int)(YJ:qW)(XZ:mP)(YW:Int)(YV:dP)(YU:Int)(YT:dP):Option (aR×eE×Int×Int×Int×Int×eG×pI×sL×Int×pP×Int×Int×cX×Int×Int×Int×Int×qW×mP×Int×dP×Int×dP):=
 (eY F.2.1 aQ b0 u z A G H B C D E YG YF YN YB YK YE YJ XZ YW YV YU YT).bind fun h=>
  some (aQ,h.1,b0,u,z,A,h.2.1,h.2.2,B,C,D,E,YG,YF,YN,YB,YK,YE,YJ,XZ,YW,YV,YU,YT)
def gB(h b0 B C D:Int)(u:eG)(E:pI)(F:sL)(G:Int)(H:pP)(I YG:Int)(YF:cX)(YN YB YK YE:Int)(YJ:qW)(XZ:mP)(YW:Int)(YV:dP)(YU:Int)(YT:dP):Option (aR×eE):=
 (bif (cm .lss h 0) then
  some true
 else
  some (cm .geq h b0)).bind fun z=>
  bif z then
   some (aQ,(some 1))
  else
   (Sw.idx u h).bind fun A=>
    some (A,(none:Option Int))
def nV(H:Pw)(b0 h u z:Int)(A:eG)(B:pI)(C:sL)(D:Int)(E:pP)(F YG:Int)(YF:cX)(YN YB YK YE:Int)(YJ:qW)(XZ:mP)(YW:Int)(YV:dP)(YU:Int)(YT:dP):Option (aR×eE×Int×Int×Int×Int×eG×pI×sL×Int×pP×Int×Int×cX×Int×Int×Int×Int×qW×mP×Int×dP×Int×dP):=
 (gB H.2.1 b0 h u z A B C D E F YG YF YN YB YK YE YJ XZ YW YV YU YT).bind fun G=>
  some (G.1,G.2,b0,h,u,z,A,B,C,D,E,F,YG,YF,YN,YB,YK,YE,YJ,XZ,YW,YV,YU,YT)
def jX(z:mT)(u b0 C A B:Int)(D:eG)(E:pI)(F:sL)(G:Int)(H:pP)(I YG:Int)(YF:cX)(YN YB YK YE:Int)(YJ:qW)(XZ:mP)(YW:Int)(YV:dP)(YU:Int)(YT:dP):Option (eE×Int×Int×dP):=
 (dA YW YV z u B).bind fun h=>
  bif (Option.isSome h.1) then
   some (h.1,A,h.2.1,h.2.2)
  else
   some ((none:Option Int),u,h.2.1,h.2.2)
def sB(u:pI)(A:Int):Option (pI×eE):=
 (lN u A).bind fun z=>
  bif (Option.isSome z) then
   some ((0,([]:mT),([]:sR),false),z)
  else
   bif (cm .eql u.1 2147483647) then
    some ((0,([]:mT),([]:sR),false),(some 2))
   else
    (nK u).bind fun h=>
     bif h.2.2.2 then
      some (((ar .add .i64 h.1 1),([]:mT),h.2.2.1,h.2.2.2),(none:Option Int))
     else
      bif (cm .eql (h.2.2.1.length:Int) 4) then
       some (((ar .add .i64 h.1 1),([]:mT),([]:sR),true),(none:Option Int))
      else
       (Sw.app h.2.2.1 ([((ar .add .i64 h.1 1),h.2.1)]:sR)).bind fun B=>
        some (((ar .add .i64 h.1 1),([]:mT),B,h.2.2.2),(none:Option Int))
def eR(b0 C h D:Int)(u:eG)(E:pI)(z:sL)(F:Int)(G:pP)(H YG:Int)(YF:cX)(YN YB YK YE:Int)(YJ:qW)(XZ:mP)(YW:Int)(YV:dP)(YU:Int)(YT:dP):Option (sL):=
 (aP u).bind fun A=>
  (Hr z h A).bind fun B=>
   some (Gt B (ar .sub .i64 (ar .sub .i64 h 4) 1))
def fX(b0 z C D:Int)(E:eG)(u:pI)(A:sL)(F:Int)(G:pP)(H YG:Int)(YF:cX)(YN YB YK YE:Int)(YJ:qW)(XZ:mP)(YW:Int)(YV:dP)(YU:Int)(YT:dP):Option (eE×Int×pI×sL×Int×dP):=
 (jX u.2.1 (ar .add .i64 C 1) b0 z C D E u A F G H YG YF YN YB YK YE YJ XZ YW YV YU YT).bind fun h=>
  bif (Option.isSome h.1) then
   some (h.1,h.2.1,u,A,h.2.2.1,h.2.2.2)
  else
   (sB u z).bind fun B=>
    (eR b0 z h.2.1 D E B.1 A F G H YG YF YN YB YK YE YJ XZ h.2.2.1 h.2.2.2 YU YT).bind fun I=>
     some (B.2,h.2.1,B.1,I,h.2.2.1,h.2.2.2)
def nW(H:Pw)(b0 u E z:Int)(A:eG)(F:pI)(G:sL)(B:Int)(C:pP)(D YG:Int)(YF:cX)(YN YB YK YE:Int)(YJ:qW)(XZ:mP)(YW:Int)(YV:dP)(YU:Int)(YT:dP):Option (aR×eE×Int×Int×Int×Int×eG×pI×sL×Int×pP×Int×Int×cX×Int×Int×Int×Int×qW×mP×Int×dP×Int×dP):=
 (fX b0 u E z A F G B C D YG YF YN YB YK YE YJ XZ YW YV YU YT).bind fun h=>
  some (aQ,h.1,b0,u,h.2.1,z,A,h.2.2.1,h.2.2.2.1,B,C,D,YG,YF,YN,YB,YK,YE,YJ,XZ,h.2.2.2.2.1,h.2.2.2.2.2,YU,YT)
def qA(h:Int):Option (Bool):=
 (bif (cm .lss h 0) then
  some true
 else
  some (cm .gtr h 2147483647)).bind fun u=>
  some u
def eI(u:cX):Option (Int):=
 lp (β:=Unit) (fun (h:Int)=>
  bif (cm .lss h (u.length:Int)) then
   (Sw.idx u h).bind fun z=>
    (qA z).bind fun A=>
     bif A then
      some (.done (.ret h))
     else
      some (.next (ar .add .i64 h 1))
  else
   some (.done (.XT ()))
  ) 0 fun (_:Unit)=>
 some (-1:Int)
def dB(h:cX):Option (Bool):=
 (eI h).bind fun u=>
  some (cm .geq u 0)
def qJ(h:(Int×cX×eG)):Option (eE):=
 (bif (cm .lss h.1 0) then
  some true
 else
  some (cm .gtr h.1 15)).bind fun u=>
  bif u then
   some (some 1)
  else
   (bif (cm .gtr (h.2.1.length:Int) 12) then
    some true
   else
    some (cm .gtr (h.2.2.length:Int) 32)).bind fun z=>
    bif z then
     some (some 2)
    else
     (dB h.2.1).bind fun A=>
      bif A then
       some (some 1)
      else
       some (none:Option Int)
def uC(z:cX):Option (Int):=
 lp (β:=Int) (fun (h:Int×Int)=>
  bif (cm .lss h.2 (z.length:Int)) then
   (Sw.idx z h.2).bind fun A=>
    lp (β:=Int) (fun (u:Int×Int)=>
     bif (cm .lss u.2 8) then
      some (.next ((ar .xor .u32 (sh .shr .u32 u.1 1) (ar .mul .u32 3988292384 (ar .and .u32 u.1 1))),(ar .add .i64 u.2 1)))
     else
      some (.done (.XT u.1))
     ) ((ar .xor .u32 h.1 A),0) fun (B:Int)=>
    some (.next (B,(ar .add .i64 h.2 1)))
  else
   some (.done (.XT h.1))
  ) (4294967295,0) fun (C:Int)=>
 some (DL .u32 C)
def nA(h:(Int×cX×eG)):Option (cX×eE):=
 (qJ h).bind fun C=>
  bif (Option.isSome C) then
   some (([]:cX),C)
  else
   lp (β:=cX) (fun (z:Int×cX)=>
    bif (cm .lss z.1 (h.2.1.length:Int)) then
     (Sw.idx h.2.1 z.1).bind fun F=>
      lp (β:=Int×cX) (fun (u:Int×cX)=>
       bif (cm .gtr u.1 127) then
        (Sw.app u.2 ([(ar .or .u8 (IntKind.wrap .u8 u.1) 128)]:cX)).bind fun G=>
         some (.next ((sh .shr .i64 u.1 7),G))
       else
        some (.done (.XT (u.1,u.2)))
       ) (F,z.2) fun (D:Int×cX)=>
      (Sw.app D.2 ([(IntKind.wrap .u8 D.1)]:cX)).bind fun H=>
       some (.next ((ar .add .i64 z.1 1),H))
    else
     some (.done (.XT z.2))
    ) (0,([(ar .or .u8 (sh .shl .u8 (IntKind.wrap .u8 h.1) 4) (IntKind.wrap .u8 (h.2.1.length:Int))),(IntKind.wrap .u8 (h.2.2.length:Int))]:cX)) fun (I:cX)=>
   lp (β:=cX) (fun (A:Int×cX)=>
    bif (cm .lss A.1 (h.2.2.length:Int)) then
     (Sw.idx h.2.2 A.1).bind fun K=>
      (Sw.app A.2 K).bind fun L=>
       some (.next ((ar .add .i64 A.1 1),L))
    else
     some (.done (.XT A.2))
    ) (0,I) fun (E:cX)=>
   (uC E).bind fun B=>
    (Sw.app E ([(IntKind.wrap .u8 (sh .shr .u32 B 24)),(IntKind.wrap .u8 (sh .shr .u32 B 16)),(IntKind.wrap .u8 (sh .shr .u32 B 8)),(IntKind.wrap .u8 B)]:cX)).bind fun M=>
     some (M,(none:Option Int))
def eQ(u:Bool)(h:(Bool×cX))(b0 B C D:Int)(E:eG)(F:pI)(G:sL)(H:Int)(I:pP)(K YG:Int)(YF:cX)(YN YB YK YE:Int)(YJ:qW)(XZ:mP)(YW:Int)(YV:dP)(YU:Int)(YT:dP):Option (mP):=
 (bif (!h.1) then
  some (cm .lss (XZ.length:Int) 64)
 else
  some false).bind fun z=>
  bif z then
   (Sw.app XZ ([(u,false,h.2)]:mP)).bind fun A=>
    some A
  else
   some XZ
def iZ(z:Bool)(A:(Int×cX×eG))(b0 B C D:Int)(E:eG)(F:pI)(G:sL)(H:Int)(I:pP)(K YG:Int)(YF:cX)(YN YB YK YE:Int)(YJ:qW)(XZ:mP)(YW:Int)(YV:dP)(YU:Int)(YT:dP):Option (eE×mP):=
 (nA A).bind fun h=>
  jp (fun (L:mP)=>
   some (h.2,L)
   ) fun u=>
  bif (Option.isNone h.2) then
   (IF h.1).bind fun _=>
    (eQ z (false,h.1) b0 B C D E F G H I K YG YF YN YB YK YE YJ XZ YW YV YU YT).bind fun M=>
     u M
  else
   u XZ
def nL(u:pI)(G B:Int):Option ((Int×mT)×Bool×eE):=
 (lN u G).bind fun D=>
  bif (Option.isSome D) then
   some ((0,([]:mT)),false,D)
  else
   (bif (cm .lss B 0) then
    some true
   else
    some (cm .gtr B u.1)).bind fun H=>
    bif H then
     some ((0,([]:mT)),false,(some 1))
    else
     bif (cm .gtr (ar .sub .i64 u.1 B) (u.2.2.1.length:Int)) then
      some ((0,([]:mT)),false,(none:Option Int))
     else
      lp (β:=(List (Option (Int×aR)))) (fun (A:Int×(List (Option (Int×aR))))=>
       bif (cm .lss A.1 (u.2.2.1.length:Int)) then
        (Sw.idx u.2.2.1 A.1).bind fun C=>
         lp (β:=(List (Option (Int×aR)))) (fun (h:Int×(List (Option (Int×aR))))=>
          bif (cm .lss h.1 (C.2.length:Int)) then
           bif (cm .gtr C.1 B) then
            (Sw.idx C.2 h.1).bind fun E=>
             (Sw.idx C.2 h.1).bind fun I=>
              (Sw.idx h.2 E.1).bind fun _=>
               some (.next ((ar .add .i64 h.1 1),(List.set h.2 (Int.toNat E.1) (some I))))
           else
            some (.next ((ar .add .i64 h.1 1),h.2))
          else
           some (.done (.XT h.2))
          ) (0,A.2) fun (K:(List (Option (Int×aR))))=>
         some (.next ((ar .add .i64 A.1 1),K))
       else
        some (.done (.XT A.2))
       ) (0,(List.replicate 32 (none:(Option (Int×aR))))) fun (L:(List (Option (Int×aR))))=>
      lp (β:=mT) (fun (z:Int×mT)=>
       bif (cm .lss z.1 32) then
        (Sw.idx L z.1).bind fun F=>
         bif (Option.isSome F) then
          (F).bind fun M=>
           (Sw.app z.2 ([M]:mT)).bind fun N=>
            some (.next ((ar .add .i64 z.1 1),N))
         else
          some (.next ((ar .add .i64 z.1 1),z.2))
       else
        some (.done (.XT z.2))
       ) (0,([]:mT)) fun (O:mT)=>
      some ((u.1,O),true,(none:Option Int))
def qK(u:eG):Option (eE):=
 bif (cm .gtr (u.length:Int) 8) then
  some (some 2)
 else
  lp (β:=Unit) (fun (h:Int×(List (aR×Bool)))=>
   bif (cm .lss h.1 (u.length:Int)) then
    (Sw.idx u h.1).bind fun z=>
     bif ((fR h.2 z).getD false) then
      some (.done (.ret (some 3)))
     else
      (Hr h.2 z true).bind fun A=>
       some (.next ((ar .add .i64 h.1 1),A))
   else
    some (.done (.XT ()))
   ) (0,([]:List (aR×Bool))) fun (_:Unit)=>
  some (none:Option Int)
def oG(h u:eG):Option (eE):=
 (bif (cm .lss (h.length:Int) 1) then
  some true
 else
  some (cm .gtr (h.length:Int) 32)).bind fun z=>
  bif z then
   some (some 1)
  else
   (qK u).bind fun A=>
    some A
def wG(u:eG):Option ((Option (eG×(List (aR×cX))))×eE):=
 (bif (cm .lss (u.length:Int) 1) then
  some true
 else
  some (cm .gtr (u.length:Int) 32)).bind fun A=>
  bif A then
   some ((none:(Option (eG×(List (aR×cX))))),(some 1))
  else
   (aP u).bind fun B=>
    lp (β:=(List (aR×cX))) (fun (h:Int×(List (aR×cX)))=>
     bif (cm .lss h.1 (u.length:Int)) then
      (Sw.idx u h.1).bind fun C=>
       (Td h.2 C).bind fun z=>
        (Sw.app z.2.2 ([h.1]:cX)).bind fun D=>
         some (.next ((ar .add .i64 h.1 1),wO z.1 z.2.1 D))
     else
      some (.done (.XT h.2))
     ) (0,([]:List (aR×cX))) fun (E:(List (aR×cX)))=>
    some ((some (B,E)),(none:Option Int))
def vM(u:Unit)(h:(Int×aR)):Option (Pw×Bool):=
 some ((h.1,0,0,aQ),(decide (h.2=aQ)))
def mC(z:(Option (eG×(List (aR×cX)))))(h:aR):Option (Int×Bool):=
 (z).bind fun u=>
  bif (cm .eql (((fR u.2 h).getD ([]:cX)).length:Int) 0) then
   some (0,false)
  else
   (Sw.idx ((fR u.2 h).getD ([]:cX)) 0).bind fun A=>
    some (A,true)
def oH(z:((Option (eG×(List (aR×cX))))))(h:(Int×aR)):Option (Pw×Bool):=
 (mC z h.2).bind fun u=>
  some ((h.1,1,u.1,aQ),u.2)
def eO(u:eG)(z:aR):Option (Int):=
 lp (β:=Unit) (fun (h:Int)=>
  bif (cm .lss h (u.length:Int)) then
   (Sw.idx u h).bind fun A=>
    bif (decide (z=A)) then
     some (.done (.ret h))
    else
     some (.next (ar .add .i64 h 1))
  else
   some (.done (.XT ()))
  ) 0 fun (_:Unit)=>
 some (-1:Int)
def uQ(u:eG)(z:aR):Option (Int×Bool):=
 (eO u z).bind fun h=>
  some ((max h 0),(cm .geq h 0))
def mD(z:(eG))(h:(Int×aR)):Option (Pw×Bool):=
 (uQ z h.2).bind fun u=>
  some ((h.1,2,u.1,aQ),u.2)
def sS(u:Unit)(h:(Int×aR)):Option (Pw×Bool):=
 some ((h.1,3,0,h.2),true)
def jK(w:lW)(p0:(Int×aR)):Option (Pw×Bool):=match w with
 | .inl z=>vM z p0
 | .inr (.inl z)=>oH z p0
 | .inr (.inr (.inl z))=>mD z p0
 | .inr (.inr (.inr (.inl z)))=>sS z p0
 | .inr (.inr (.inr (.inr _)))=>none
def rG(u:mT)(z C:eG):Option (pZ×eE):=
 (oG z C).bind fun G=>
  bif (Option.isSome G) then
   some (([]:pZ),G)
  else
   lp (β:=Unit) (fun (A:Int×Int)=>
    bif (cm .lss A.2 (u.length:Int)) then
     (Sw.idx u A.2).bind fun D=>
      (bif (cm .leq D.1 A.1) then
       some true
      else
       some (cm .geq D.1 (z.length:Int))).bind fun K=>
       bif K then
        some (.done (.ret (([]:pZ),(some 1))))
       else
        some (.next (D.1,(ar .add .i64 A.2 1)))
    else
     some (.done (.XT ()))
    ) ((-1:Int),0) fun (_:Unit)=>
   (wG z).bind fun B=>
    bif (Option.isSome B.2) then
     some (([]:pZ),B.2)
    else
     lp (β:=pZ) (fun (h:Int×pZ)=>
      bif (cm .lss h.1 (u.length:Int)) then
       jp (fun (L:pZ)=>
        some (.next ((ar .add .i64 h.1 1),L))
        ) fun H=>
       (Sw.idx u h.1).bind fun E=>
        (Sw.idx z E.1).bind fun M=>
         bif (decide (M=E.2)) then
          H h.2
         else
          lp (β:=pZ) (fun (F:Int)=>
           bif (cm .lss F (([(.inl ():lW),(.inr (.inl B.1):lW),(.inr (.inr (.inl C)):lW),(.inr (.inr (.inr (.inl ()))):lW)]:(List lW)).length:Int)) then
            (Sw.idx ([(.inl ():lW),(.inr (.inl B.1):lW),(.inr (.inr (.inl C)):lW),(.inr (.inr (.inr (.inl ()))):lW)]:(List lW)) F).bind fun N=>
             (jK N E).bind fun I=>
              bif I.2 then
               (Sw.app h.2 ([I.1]:pZ)).bind fun O=>
                some (.done (.XT O))
              else
               some (.next (ar .add .i64 F 1))
           else
            some (.done (.XT h.2))
           ) 0 fun (P:pZ)=>
          H P
      else
       some (.done (.XT h.2))
      ) (0,([]:pZ)) fun (Q:pZ)=>
     some (Q,(none:Option Int))
def rH(B:(Int×mT))(D:eG)(E:Int):Option ((Int×cX×eG)×Bool):=
 (rG B.2 D ([]:eG)).bind fun z=>
  bif (Option.isSome z.2) then
   some ((0,([]:cX),([]:eG)),false)
  else
   lp (β:=cX×eG) (fun (h:Int×cX×eG)=>
    bif (cm .lss h.1 (z.1.length:Int)) then
     (Sw.idx z.1 h.1).bind fun u=>
      (Sw.app h.2.1 ([(ar .or .i64 (ar .or .i64 (sh .shl .i64 u.1 8) (sh .shl .i64 u.2.1 6)) u.2.2.1)]:cX)).bind fun C=>
       bif (cm .eql u.2.1 3) then
        (Sw.app h.2.2 ([u.2.2.2]:eG)).bind fun F=>
         some (.next ((ar .add .i64 h.1 1),C,F))
       else
        some (.next ((ar .add .i64 h.1 1),C,h.2.2))
    else
     some (.done (.XT (h.2.1,h.2.2)))
    ) (0,([E,B.1]:cX),([]:eG)) fun (A:cX×eG)=>
   some ((4,A.1,A.2),(cm .leq (A.1.length:Int) 9))
def dS(b0 D B G:Int)(H:eG)(E:pI)(u:sL)(I:Int)(K:pP)(h YG:Int)(YF:cX)(YN YB YK YE:Int)(YJ:qW)(XZ:mP)(YW:Int)(YV:dP)(YU:Int)(YT:dP):Option ((Int×cX×eG)):=
 (nL E D h).bind fun z=>
  (bif (Option.isNone z.2.2) then
   some z.2.1
  else
   some false).bind fun F=>
   jp (fun (_:Unit)=>
    some (5,([B]:cX),((fR u B).getD ([]:eG)))
    ) fun A=>
   bif F then
    bif (fR u h).isSome then
     (rH z.1 ((fR u h).getD ([]:eG)) h).bind fun C=>
      bif C.2 then
       some C.1
      else
       A ()
    else
     A ()
   else
    A ()
def qB(h:Int):Option (Bool):=
 (bif (cm .lss h 0) then
  some true
 else
  some (cm .gtr h 2147483647)).bind fun u=>
  some u
def eJ(u:cX):Option (Int):=
 lp (β:=Unit) (fun (h:Int)=>
  bif (cm .lss h (u.length:Int)) then
   (Sw.idx u h).bind fun z=>
    (qB z).bind fun A=>
     bif A then
      some (.done (.ret h))
     else
      some (.next (ar .add .i64 h 1))
  else
   some (.done (.XT ()))
  ) 0 fun (_:Unit)=>
 some (-1:Int)
def dC(h:cX):Option (Bool):=
 (eJ h).bind fun u=>
  some (cm .geq u 0)
def qL(h:cX):Option (Bool):=
 (dC h).bind fun u=>
  some (!u)
def uD(h:(Int×cX×eG)):Option (eE):=
 (qJ h).bind fun u=>
  bif (Option.isSome u) then
   some u
  else
   bif (cm .gtr (h.2.1.length:Int) 9) then
    some (some 2)
   else
    some (none:Option Int)
def pQ(h:pP):Option (eE):=
 (qL ([h.1,h.2.1]:cX)).bind fun A=>
  bif (!A) then
   some (some 1)
  else
   bif (cm .gtr (h.2.2.length:Int) 64) then
    some (some 2)
   else
    lp (β:=Unit) (fun (u:Int)=>
     bif (cm .lss u (h.2.2.length:Int)) then
      (Sw.idx h.2.2 u).bind fun B=>
       (uD B).bind fun z=>
        bif (Option.isSome z) then
         some (.done (.ret z))
        else
         some (.next (ar .add .i64 u 1))
     else
      some (.done (.XT ()))
     ) 0 fun (_:Unit)=>
    some (none:Option Int)
def rI(h:(Bool×cX)):Option (cX):=
 bif h.1 then
  some ([]:cX)
 else
  (Sw.app ([]:cX) h.2).bind fun u=>
   some u
def lK(h:cX):Option cX:=Sw.app [] h
def nB(h:(Int×cX×eG)):Option ((Int×cX×eG)):=
 (lK h.2.1).bind fun u=>
  (aP h.2.2).bind fun z=>
   some (h.1,u,z)
def sC(u:xC):Option (xC):=
 lp (β:=xC) (fun (h:Int×xC)=>
  bif (cm .lss h.1 (u.length:Int)) then
   (Sw.idx u h.1).bind fun z=>
    (nB z).bind fun A=>
     (Sw.app h.2 ([A]:xC)).bind fun B=>
      some (.next ((ar .add .i64 h.1 1),B))
  else
   some (.done (.XT h.2))
  ) (0,([]:xC)) fun (C:xC)=>
 some C
def uR(h:pP)(u:(Int×cX×eG)):Option (pP×eE):=
 (pQ h).bind fun z=>
  bif (Option.isSome z) then
   some ((0,0,([]:xC)),z)
  else
   (uD u).bind fun A=>
    bif (Option.isSome A) then
     some ((0,0,([]:xC)),A)
    else
     (bif (cm .eql (h.2.2.length:Int) 64) then
      some true
     else
      some (cm .geq (ar .add .i64 h.2.1 (h.2.2.length:Int)) 2147483647)).bind fun B=>
      bif B then
       some ((0,0,([]:xC)),(some 2))
      else
       (sC h.2.2).bind fun C=>
        (nB u).bind fun D=>
         (Sw.app C ([D]:xC)).bind fun E=>
          some ((h.1,h.2.1,E),(none:Option Int))
def pL(u:pP):Option ((List cX)×eE):=
 (pQ u).bind fun B=>
  bif (Option.isSome B) then
   some (([]:(List cX)),B)
  else
   (Sw.sub u.2.2 0 (min (u.2.2.length:Int) 4)).bind fun C=>
    lp (β:=(List cX)) (fun (h:Int×(List cX))=>
     bif (cm .lss h.1 (C.length:Int)) then
      (Sw.idx C h.1).bind fun z=>
       bif (cm .gtr (ar .add .i64 u.2.1 h.1) 2147483647) then
        some (.done (.ret (([]:(List cX)),(some 1))))
       else
        (Sw.app ([u.1,(ar .add .i64 u.2.1 h.1),z.1]:cX) z.2.1).bind fun D=>
         (nA (1,D,z.2.2)).bind fun A=>
          bif (Option.isSome A.2) then
           some (.done (.ret (([]:(List cX)),A.2)))
          else
           (Sw.app h.2 ([A.1]:(List cX))).bind fun E=>
            some (.next ((ar .add .i64 h.1 1),E))
     else
      some (.done (.XT h.2))
     ) (0,([]:(List cX))) fun (F:(List cX))=>
    some (F,(none:Option Int))
def dI(b0 F z D:Int)(G:eG)(H:pI)(I:sL)(E:Int)(h:pP)(A YG:Int)(YF:cX)(YN YB YK YE:Int)(YJ:qW)(XZ:mP)(YW:Int)(YV:dP)(YU:Int)(YT:dP):Option (eE×pP×Int×cX×mP):=
 (iZ true (2,([D]:cX),([]:eG)) b0 F z D G H I E h A YG YF YN YB YK YE YJ XZ YW YV YU YT).bind fun B=>
  (bif (Option.isSome B.1) then
   some true
  else
   some (cm .lss E 0)).bind fun O=>
   bif O then
    some (B.1,h,A,YF,B.2)
   else
    (bif (cm .lss A z) then
     some (cm .eql (h.2.2.length:Int) 0)
    else
     some false).bind fun P=>
     jp (fun (u:pP×Int×cX)=>
      (pL u.1).bind fun K=>
       lp (β:=mP) (fun (C:Int×mP)=>
        bif (cm .lss C.1 (K.1.length:Int)) then
         (Sw.idx K.1 C.1).bind fun M=>
          (IF M).bind fun _=>
           (eQ true (false,M) b0 F z D G H I E u.1 u.2.1 YG u.2.2 YN YB YK YE YJ C.2 YW YV YU YT).bind fun Q=>
            some (.next ((ar .add .i64 C.1 1),Q))
        else
         some (.done (.XT C.2))
        ) (0,B.2) fun (R:mP)=>
       some (K.2,u.1,u.2.1,u.2.2,R)
      ) fun N=>
     bif P then
      (dS b0 F z D G H I E h A YG YF YN YB YK YE YJ B.2 YW YV YU YT).bind fun S=>
       (uR h S).bind fun L=>
        bif (Option.isSome L.2) then
         some (L.2,h,A,YF,B.2)
        else
         (Sw.app YF ([z]:cX)).bind fun T=>
          N (L.1,z,T)
     else
      N (h,A,YF)
def nX(H:Pw)(b0 u z A:Int)(B:eG)(C:pI)(D:sL)(E:Int)(F:pP)(G YG:Int)(YF:cX)(YN YB YK YE:Int)(YJ:qW)(XZ:mP)(YW:Int)(YV:dP)(YU:Int)(YT:dP):Option (aR×eE×Int×Int×Int×Int×eG×pI×sL×Int×pP×Int×Int×cX×Int×Int×Int×Int×qW×mP×Int×dP×Int×dP):=
 (dI b0 u z A B C D E F G YG YF YN YB YK YE YJ XZ YW YV YU YT).bind fun h=>
  some (aQ,h.1,b0,u,z,A,B,C,D,E,h.2.1,h.2.2.1,YG,h.2.2.2.1,YN,YB,YK,YE,YJ,h.2.2.2.2,YW,YV,YU,YT)
def cD(h b0 u z A:Int)(B:eG)(C:pI)(D:sL)(E:Int)(F:pP)(G YG:Int)(YF:cX)(YN YB YK YE:Int)(YJ:qW)(XZ:mP)(YW:Int)(YV:dP)(YU:Int)(YT:dP):Option (Int×Bool):=
 bif (cm .eql (XZ.length:Int) 0) then
  some (0,false)
 else
  (nz (XZ.length:Int)).bind fun _=>
   some ((ar .rem .i64 (max h (IntKind.wrap .i64 (0 - (ar .add .i64 h 1)))) (XZ.length:Int)),true)
def hX(h:(Bool×mP)):Option (mP):=
 bif h.1 then
  some ([]:mP)
 else
  (Sw.app ([]:mP) h.2).bind fun u=>
   some u
def dD(h:mP):Option mP:=Sw.app [] h
def cH(h:mP)(u z:Int):Option mP:=Sw.del h u z
def fD(XG:cX):Option (Int×Bool×cX):=
 bif (cm .eql (XG.length:Int) 0) then
  some (0,false,XG)
 else
  (Sw.idx XG 0).bind fun h=>
   (Sw.sub XG 1 (XG.length:Int)).bind fun u=>
    some (h,true,u)
def gJ(XG:cX):Option (Int×Bool×cX):=
 lp (β:=cX) (fun (h:Int×Int×cX)=>
  bif (cm .lss h.2.1 35) then
   (fD h.2.2).bind fun u=>
    bif (!u.2.1) then
     some (.done (.ret (0,false,u.2.2)))
    else
     (nn h.2.1).bind fun _=>
      bif (cm .lss u.1 128) then
       (bif (cm .leq (ar .or .i64 h.1 (sh .shl .i64 (ar .and .u8 u.1 127) h.2.1)) 2147483647) then
        bif (cm .gtr u.1 0) then
         some true
        else
         some (cm .eql h.2.1 0)
       else
        some false).bind fun z=>
        some (.done (.ret ((ar .or .i64 h.1 (sh .shl .i64 (ar .and .u8 u.1 127) h.2.1)),z,u.2.2)))
      else
       some (.next ((ar .or .i64 h.1 (sh .shl .i64 (ar .and .u8 u.1 127) h.2.1)),(ar .add .i64 h.2.1 7),u.2.2))
  else
   some (.done (.XT h.2.2))
  ) (0,0,XG) fun (A:cX)=>
 some (0,false,A)
def kD(u:cX)(h:Int):Option ((cX×Int)):=
 jp (fun (_:Unit)=>
  some (u,h)
  ) fun z=>
 bif (cm .lss h 1) then
  none
 else
  z ()
def fH(u:cX):Option ((Int×cX×eG)×eE):=
 bif (cm .lss (u.length:Int) 6) then
  some ((0,([]:cX),([]:eG)),(some 3))
 else
  (Sw.sub u 0 (ar .sub .i64 (u.length:Int) 4)).bind fun D=>
   (uC D).bind fun A=>
    (Sw.sub u (D.length:Int) (u.length:Int)).bind fun H=>
     (Sw.C7 4 H).bind fun I=>
      bif (!decide (I=([(IntKind.wrap .u8 (sh .shr .u32 A 24)),(IntKind.wrap .u8 (sh .shr .u32 A 16)),(IntKind.wrap .u8 (sh .shr .u32 A 8)),(IntKind.wrap .u8 A)]:cX))) then
       some ((0,([]:cX),([]:eG)),(some 3))
      else
       (fD D).bind fun E=>
        (fD E.2.2).bind fun F=>
         lp (β:=cX×cX) (fun (h:Int×cX×cX)=>
          bif (cm .lss h.1 (ar .and .u8 E.1 15)) then
           (gJ h.2.1).bind fun G=>
            bif (!G.2.1) then
             some (.done (.ret ((0,([]:cX),([]:eG)),(some 3))))
            else
             (Sw.app h.2.2 ([G.1]:cX)).bind fun K=>
              some (.next ((ar .add .u8 h.1 1),G.2.2,K))
          else
           some (.done (.XT (h.2.1,h.2.2)))
          ) (0,F.2.2,([]:cX)) fun (B:cX×cX)=>
         (bif (cm .gtr F.1 32) then
          some true
         else
          bif (cm .gtr (B.2.length:Int) 12) then
           some true
          else
           some (cm .neq (B.1.length:Int) (ar .mul .i64 F.1 8))).bind fun L=>
          bif L then
           some ((0,([]:cX),([]:eG)),(some 3))
          else
           (kD B.1 8).bind fun C=>
            (Sw.small C.1).bind fun _=>
             (Sw.rz C.2).bind fun _=>
              rg (δ:=Empty) (fun (M:cX) (N:eG)=>
               (Sw.C7 8 M).bind fun O=>
                (Sw.app N ([O]:eG)).bind fun P=>
                 some (.next P)
               ) (Sw.chunks (Int.toNat C.2) C.1) ([]:eG) (fun (Q:eG)=>
               some (((sh .shr .u8 E.1 4),B.2,Q),(none:Option Int))
               ) fun (z:Empty)=>z.elim
def qM(u:cX):Option (Int):=
 lp (β:=Int) (fun (h:Int×Int)=>
  bif (cm .lss h.2 (u.length:Int)) then
   (Sw.idx u h.2).bind fun z=>
    some (.next ((ar .mul .u64 (ar .xor .u64 h.1 z) 1099511628211),(ar .add .i64 h.2 1)))
  else
   some (.done (.XT h.1))
  ) (14695981039346656037,0) fun (A:Int)=>
 some A
def wH(h:aR):Option (Int):=
 (Sw.app ([0]:cX) h).bind fun u=>
  (qM u).bind fun z=>
   some z
def iS(u:cX)(h:Int):Option ((cX×Int)):=
 jp (fun (_:Unit)=>
  some (u,h)
  ) fun z=>
 bif (cm .lss h 1) then
  none
 else
  z ()
def uE(z:cX):Option (Int):=
 lp (β:=cX) (fun (u:Int×cX)=>
  bif (cm .lss u.1 (z.length:Int)) then
   (Sw.idx z u.1).bind fun A=>
    lp (β:=cX) (fun (h:Int×cX)=>
     bif (cm .geq h.1 0) then
      (nn h.1).bind fun _=>
       (Sw.app h.2 ([(IntKind.wrap .u8 (sh .shr .u64 A h.1))]:cX)).bind fun B=>
        some (.next ((ar .sub .i64 h.1 8),B))
     else
      some (.done (.XT h.2))
     ) (56,u.2) fun (C:cX)=>
    some (.next ((ar .add .i64 u.1 1),C))
  else
   some (.done (.XT u.2))
  ) (0,([1]:cX)) fun (D:cX)=>
 (qM D).bind fun E=>
  some E
def sD(u:cX):Option (cX):=
 (iS u 4).bind fun h=>
  (Sw.small h.1).bind fun _=>
   (Sw.rz h.2).bind fun _=>
    rg (δ:=Empty) (fun (A B:cX)=>
     (uE A).bind fun C=>
      (Sw.app B ([C]:cX)).bind fun D=>
       some (.next D)
     ) (Sw.chunks (Int.toNat h.2) h.1) ([]:cX) (fun (E:cX)=>
     some E
     ) fun (z:Empty)=>z.elim
def Af(u:eG):Option (((List cX))×eE):=
 (bif (cm .lss (u.length:Int) 1) then
  some true
 else
  some (cm .gtr (u.length:Int) 32)).bind fun C=>
  bif C then
   some (([]:(List cX)),(some 1))
  else
   lp (β:=cX) (fun (h:Int×cX)=>
    bif (cm .lss h.1 (u.length:Int)) then
     (Sw.idx u h.1).bind fun D=>
      (wH D).bind fun E=>
       (Sw.app h.2 ([E]:cX)).bind fun F=>
        some (.next ((ar .add .i64 h.1 1),F))
    else
     some (.done (.XT h.2))
    ) (0,([]:cX)) fun (A:cX)=>
   lp (β:=(List cX)) (fun (z:cX×(List cX))=>
    bif (cm .gtr (z.1.length:Int) 1) then
     (sD z.1).bind fun B=>
      (Sw.app z.2 ([B]:(List cX))).bind fun G=>
       some (.next (B,G))
    else
     some (.done (.XT z.2))
    ) (A,([A]:(List cX))) fun (H:(List cX))=>
   some (H,(none:Option Int))
def qC(h:Int):Option (cX):=
 some ([(IntKind.wrap .i64 (sh .shr .u64 h 33)),(IntKind.wrap .i64 (ar .and .u64 (sh .shr .u64 h 2) 2147483647))]:cX)
def kE(u:eG):Option (cX):=
 (Af u).bind fun h=>
  bif (Option.isSome h.2) then
   some ([]:cX)
  else
   (Sw.idx h.1 (ar .sub .i64 (h.1.length:Int) 1)).bind fun z=>
    (Sw.idx z 0).bind fun A=>
     (qC A).bind fun B=>
      some B
def oJ(h:qW)(C:cX):Option (qW×(Int×cX×eG)×Bool×(Bool×cX)×eE):=
 (qL ([h.1,h.2]:cX)).bind fun D=>
  bif (!D) then
   some ((0,0),(0,([]:cX),([]:eG)),false,(true,([]:cX)),(some 1))
  else
   (fH C).bind fun u=>
    (bif (Option.isSome u.2) then
     some true
    else
     bif (cm .neq u.1.1 1) then
      some true
     else
      bif (cm .lss (u.1.2.1.length:Int) 3) then
       some true
      else
       (Sw.idx u.1.2.1 0).bind fun E=>
        bif (cm .neq E h.1) then
         some true
        else
         (Sw.idx u.1.2.1 2).bind fun F=>
          some (cm .gtr F 15)).bind fun G=>
     bif G then
      some (h,(0,([]:cX),([]:eG)),false,(true,([]:cX)),(none:Option Int))
     else
      ((Sw.idx u.1.2.1 1).bind fun H=>
       bif (cm .eql H h.2) then
        some (cm .lss h.2 2147483647)
       else
        some false).bind fun I=>
       jp (fun (z:Bool×Int×Int×cX×eG)=>
        (nA (0,([h.1,z.2.1]:cX),([]:eG))).bind fun A=>
         (IF A.1).bind fun _=>
          some ((h.1,z.2.1),z.2.2,z.1,(false,A.1),A.2)
        ) fun B=>
       bif I then
        (Sw.idx u.1.2.1 2).bind fun K=>
         (Sw.sub u.1.2.1 3 (u.1.2.1.length:Int)).bind fun L=>
          B (true,(ar .add .i64 h.2 1),K,L,u.1.2.2)
       else
        B (false,h.2,0,([]:cX),([]:eG))
def gV(z:mT)(u b0 A B C:Int)(D:eG)(E:pI)(F:sL)(G:Int)(H:pP)(I YG:Int)(YF:cX)(YN YB YK YE:Int)(YJ:qW)(XZ:mP)(YW:Int)(YV:dP)(YU:Int)(YT:dP):Option (eE×Int×Int×dP):=
 (dA YU YT z u YK).bind fun h=>
  bif (Option.isSome h.1) then
   some (h.1,YB,h.2.1,h.2.2)
  else
   some ((none:Option Int),u,h.2.1,h.2.2)
def oM(z:(Int×cX×eG)):Option (pZ×Bool):=
 (Sw.sub z.2.1 2 (z.2.1.length:Int)).bind fun A=>
  lp (β:=eG×pZ) (fun (h:eG×Int×pZ)=>
   bif (cm .lss h.2.1 (A.length:Int)) then
    (Sw.idx A h.2.1).bind fun u=>
     jp (fun (B:eG×aR)=>
      (Sw.app h.2.2 ([((sh .shr .i64 u 8),(ar .and .i64 (sh .shr .i64 u 6) 3),(ar .and .i64 u 63),B.2)]:pZ)).bind fun E=>
       some (.next (B.1,(ar .add .i64 h.2.1 1),E))
      ) fun C=>
     bif (cm .eql (ar .and .i64 (sh .shr .i64 u 6) 3) 3) then
      bif (cm .eql (h.1.length:Int) 0) then
       some (.done (.ret (([]:pZ),false)))
      else
       (Sw.idx h.1 0).bind fun F=>
        (Sw.sub h.1 1 (h.1.length:Int)).bind fun G=>
         C (G,F)
     else
      C (h.1,aQ)
   else
    some (.done (.XT (h.1,h.2.2)))
   ) (z.2.2,0,([]:pZ)) fun (D:eG×pZ)=>
  some (D.2,(cm .eql (D.1.length:Int) 0))
def tT(u:eG)(h:Int):Option (aR×Bool):=
 (bif (cm .lss h 0) then
  some true
 else
  some (cm .geq h (u.length:Int))).bind fun z=>
  bif z then
   some (aQ,false)
  else
   (Sw.idx u h).bind fun A=>
    some (A,true)
def pR(A:pZ)(C D:eG):Option (mT×cX×eE):=
 (oG C D).bind fun E=>
  bif (Option.isSome E) then
   some (([]:mT),([]:cX),E)
  else
   lp (β:=Unit) (fun (B:Int×Int)=>
    bif (cm .lss B.2 (A.length:Int)) then
     (Sw.idx A B.2).bind fun z=>
      (bif (cm .leq z.1 B.1) then
       some true
      else
       bif (cm .geq z.1 (C.length:Int)) then
        some true
       else
        bif (cm .lss z.2.1 0) then
         some true
        else
         some (cm .gtr z.2.1 3)).bind fun I=>
       bif I then
        some (.done (.ret (([]:mT),([]:cX),(some 1))))
       else
        some (.next (z.1,(ar .add .i64 B.2 1)))
    else
     some (.done (.XT ()))
    ) ((-1:Int),0) fun (_:Unit)=>
   lp (β:=mT×cX) (fun (h:Int×mT×cX)=>
    bif (cm .lss h.1 (A.length:Int)) then
     (Sw.idx A h.1).bind fun u=>
      bif (cm .eql u.2.1 1) then
       (tT C u.2.2.1).bind fun F=>
        bif F.2 then
         (Sw.app h.2.1 ([(u.1,F.1)]:mT)).bind fun K=>
          some (.next ((ar .add .i64 h.1 1),K,h.2.2))
        else
         (Sw.app h.2.2 ([u.1]:cX)).bind fun L=>
          some (.next ((ar .add .i64 h.1 1),h.2.1,L))
      else
       bif (cm .eql u.2.1 2) then
        (tT D u.2.2.1).bind fun G=>
         bif G.2 then
          (Sw.app h.2.1 ([(u.1,G.1)]:mT)).bind fun M=>
           some (.next ((ar .add .i64 h.1 1),M,h.2.2))
         else
          (Sw.app h.2.2 ([u.1]:cX)).bind fun N=>
           some (.next ((ar .add .i64 h.1 1),h.2.1,N))
       else
        bif (cm .eql u.2.1 3) then
         (Sw.app h.2.1 ([(u.1,u.2.2.2)]:mT)).bind fun O=>
          some (.next ((ar .add .i64 h.1 1),O,h.2.2))
        else
         (Sw.app h.2.1 ([(u.1,aQ)]:mT)).bind fun P=>
          some (.next ((ar .add .i64 h.1 1),P,h.2.2))
    else
     some (.done (.XT (h.2.1,h.2.2)))
    ) (0,([]:mT),([]:cX)) fun (H:mT×cX)=>
   some (H.1,H.2,(none:Option Int))
def fI(h:(Int×cX×eG))(b0 D E F:Int)(G:eG)(H:pI)(I:sL)(K:Int)(L:pP)(M YG:Int)(YF:cX)(YN YB YK YE:Int)(YJ:qW)(XZ:mP)(YW:Int)(YV:dP)(YU:Int)(YT:dP):Option (eE×Int×Int×dP):=
 (bif (cm .eql h.1 5) then
  bif (cm .eql (h.2.1.length:Int) 1) then
   bif (cm .eql (h.2.2.length:Int) YN) then
    (Sw.idx h.2.1 0).bind fun O=>
     some (cm .gtr O YB)
   else
    some false
  else
   some false
 else
  some false).bind fun P=>
  bif P then
   lp (β:=mT) (fun (u:Int×mT)=>
    bif (cm .lss u.1 (h.2.2.length:Int)) then
     (Sw.idx h.2.2 u.1).bind fun Q=>
      (Sw.app u.2 ([(u.1,Q)]:mT)).bind fun R=>
       some (.next ((ar .add .i64 u.1 1),R))
    else
     some (.done (.XT u.2))
    ) (0,([]:mT)) fun (S:mT)=>
   (Sw.idx h.2.1 0).bind fun T=>
    (gV S T b0 D E F G H I K L M YG YF YN YB YK YE YJ XZ YW YV YU YT).bind fun z=>
     some (z.1,z.2.1,z.2.2.1,z.2.2.2)
  else
   (bif (cm .eql h.1 4) then
    bif (cm .geq (h.2.1.length:Int) 2) then
     (Sw.idx h.2.1 0).bind fun U=>
      bif (cm .eql U YB) then
       (Sw.idx h.2.1 1).bind fun V=>
        some (cm .gtr V YB)
      else
       some false
    else
     some false
   else
    some false).bind fun X=>
    bif X then
     (gE (YU,YT)).bind fun B=>
      bif (Option.isSome B.2) then
       some (B.2,YB,YU,YT)
      else
       (oM h).bind fun N=>
        (pR N.1 B.1 ([]:eG)).bind fun C=>
         (bif (!N.2) then
          some true
         else
          bif (Option.isSome C.2.2) then
           some true
          else
           some (cm .gtr (C.2.1.length:Int) 0)).bind fun aa=>
          bif aa then
           some ((none:Option Int),YB,YU,YT)
          else
           (Sw.idx h.2.1 1).bind fun tz=>
            (gV C.1 tz b0 D E F G H I K L M YG YF YN YB YK YE YJ XZ YW YV YU YT).bind fun A=>
             some (A.1,A.2.1,A.2.2.1,A.2.2.2)
    else
     some ((none:Option Int),YB,YU,YT)
def cI(N:cX)(b0 C D E:Int)(F:eG)(G:pI)(H:sL)(I:Int)(K:pP)(L YG:Int)(YF:cX)(YN YB YK YE:Int)(YJ:qW)(XZ:mP)(YW:Int)(YV:dP)(YU:Int)(YT:dP):Option (eE×Int×Int×qW×mP×Int×dP):=
 (fH N).bind fun A=>
  (bif (Option.isNone A.2) then
   bif (cm .eql A.1.1 2) then
    some (cm .eql (A.1.2.1.length:Int) 1)
   else
    some false
  else
   some false).bind fun R=>
   bif R then
    (Sw.idx A.1.2.1 0).bind fun S=>
     jp (fun (u:Int×qW)=>
      (gE (YU,YT)).bind fun M=>
       (bif (Option.isSome M.2) then
        some true
       else
        (Sw.idx A.1.2.1 0).bind fun T=>
         some (cm .lss T u.1)).bind fun U=>
        bif U then
         some (M.2,YB,u.1,u.2,XZ,YU,YT)
        else
         (kE M.1).bind fun V=>
          (Sw.app ([u.1,YK,YB]:cX) V).bind fun X=>
           (iZ false (3,X,([]:eG)) b0 C D E F G H I K L YG YF YN YB YK u.1 u.2 XZ YW YV YU YT).bind fun O=>
            some (O.1,YB,u.1,u.2,O.2,YU,YT)
      ) fun P=>
     bif (cm .gtr S YE) then
      (Sw.idx A.1.2.1 0).bind fun aa=>
       (Sw.idx A.1.2.1 0).bind fun om=>
        P (aa,((ar .or .i64 (sh .shl .i64 om 12) YK),0))
     else
      P (YE,YJ)
   else
    bif (cm .lss YE 0) then
     some ((none:Option Int),YB,YE,YJ,XZ,YU,YT)
    else
     (oJ YJ N).bind fun h=>
      bif (Option.isSome h.2.2.2.2) then
       some (h.2.2.2.2,YB,YE,YJ,XZ,YU,YT)
      else
       jp (fun (B:Int×Int×dP)=>
        (eQ false h.2.2.2.1 b0 C D E F G H I K L YG YF YN B.1 YK YE h.1 XZ YW YV B.2.1 B.2.2).bind fun ab=>
         some ((none:Option Int),B.1,YE,h.1,ab,B.2.1,B.2.2)
        ) fun Q=>
       bif h.2.2.1 then
        (fI h.2.1 b0 C D E F G H I K L YG YF YN YB YK YE h.1 XZ YW YV YU YT).bind fun z=>
         bif (Option.isSome z.1) then
          some (z.1,z.2.1,YE,h.1,XZ,z.2.2.1,z.2.2.2)
         else
          Q (z.2.1,z.2.2.1,z.2.2.2)
       else
        Q (YB,YU,YT)
def jL(u z:cX):Option (Bool):=
 bif (cm .neq (u.length:Int) (z.length:Int)) then
  some false
 else
  lp (β:=Unit) (fun (h:Int)=>
   bif (cm .lss h (u.length:Int)) then
    (Sw.idx u h).bind fun A=>
     (Sw.idx z h).bind fun B=>
      bif (cm .neq A B) then
       some (.done (.ret false))
      else
       some (.next (ar .add .i64 h 1))
   else
    some (.done (.XT ()))
   ) 0 fun (_:Unit)=>
  some true
def sE(h:pP)(E:cX):Option (pP×eE):=
 (pQ h).bind fun B=>
  bif (Option.isSome B) then
   some ((0,0,([]:xC)),B)
  else
   (sC h.2.2).bind fun z=>
    (fH E).bind fun u=>
     (bif (Option.isSome u.2) then
      some true
     else
      bif (cm .neq u.1.1 0) then
       some true
      else
       bif (cm .neq (u.1.2.1.length:Int) 2) then
        some true
       else
        bif (cm .gtr (u.1.2.2.length:Int) 0) then
         some true
        else
         (Sw.idx u.1.2.1 0).bind fun F=>
          some (cm .neq F h.1)).bind fun G=>
      bif G then
       some ((h.1,h.2.1,z),(none:Option Int))
      else
       (Sw.idx u.1.2.1 1).bind fun A=>
        (bif (cm .gtr (ar .sub .i64 A h.2.1) 0) then
         some (cm .leq (ar .sub .i64 A h.2.1) (min (z.length:Int) 4))
        else
         some false).bind fun H=>
         jp (fun (C:Int×xC)=>
          some ((h.1,C.1,C.2),(none:Option Int))
          ) fun D=>
         bif H then
          (Sw.idx u.1.2.1 1).bind fun I=>
           (Sw.sub z (ar .sub .i64 A h.2.1) (z.length:Int)).bind fun K=>
            D (I,K)
         else
          D (h.2.1,z)
def oO(h:(Int×mT))(u:Int):Option (Bool):=
 some (cm .leq h.1 u)
def cC(u:sR)(YY:Int):Option (Int):=
 lp (β:=Unit) (fun (h:Int)=>
  bif (cm .lss h (u.length:Int)) then
   (Sw.idx u h).bind fun z=>
    (oO z YY).bind fun A=>
     bif A then
      some (.done (.ret h))
     else
      some (.next (ar .add .i64 h 1))
  else
   some (.done (.XT ()))
  ) 0 fun (_:Unit)=>
 some (-1:Int)
def bX(z:sR)(YY:Int):Option (sR):=
 (cC z YY).bind fun A=>
  bif (cm .eql A (-1:Int)) then
   some z
  else
   lp (β:=Int×sR) (fun (h:Int×Int×sR)=>
    bif (cm .lss h.2.1 (h.2.2.length:Int)) then
     (Sw.idx h.2.2 h.2.1).bind fun B=>
      (oO B YY).bind fun C=>
       bif (!C) then
        (Sw.idx h.2.2 h.1).bind fun _=>
         some (.next ((ar .add .i64 h.1 1),(ar .add .i64 h.2.1 1),(List.set h.2.2 (Int.toNat h.1) B)))
       else
        some (.next (h.1,(ar .add .i64 h.2.1 1),h.2.2))
    else
     some (.done (.XT (h.1,h.2.2)))
    ) (A,(ar .add .i64 A 1),z) fun (u:Int×sR)=>
   (Sw.sub u.2 u.1 (u.2.length:Int)).bind fun _=>
    (Sw.sub (List.take (Int.toNat u.1) u.2++List.replicate (u.2.length - Int.toNat u.1) (0,([]:mT))) 0 u.1).bind fun D=>
     some D
def pS(z:pI)(C u:Int):Option (pI×eE):=
 (lN z C).bind fun A=>
  bif (Option.isSome A) then
   some ((0,([]:mT),([]:sR),false),A)
  else
   (bif (cm .lss u 0) then
    some true
   else
    some (cm .gtr u z.1)).bind fun D=>
    bif D then
     some ((0,([]:mT),([]:sR),false),(some 1))
    else
     (nK z).bind fun h=>
      (bX h.2.2.1 u).bind fun E=>
       jp (fun (F:Bool)=>
        some ((h.1,h.2.1,E,F),(none:Option Int))
        ) fun B=>
       bif (cm .eql u h.1) then
        B false
       else
        B h.2.2.2
def cP(I:cX)(b0 Q b2 R:Int)(b4:eG)(A:pI)(K:sL)(u:Int)(z:pP)(E YG:Int)(YF:cX)(YN YB YK YE:Int)(YJ:qW)(XZ:mP)(YW:Int)(YV:dP)(YU:Int)(YT:dP):Option (eE×pI×Int×pP×Int×Int×cX):=
 (fH I).bind fun h=>
  (bif (Option.isNone h.2) then
   bif (cm .eql h.1.1 3) then
    bif (cm .eql (h.1.2.1.length:Int) 5) then
     (Sw.idx h.1.2.1 0).bind fun S=>
      some (cm .eql S R)
    else
     some false
   else
    some false
  else
   some false).bind fun T=>
   bif T then
    (Sw.idx h.1.2.1 0).bind fun F=>
     (Sw.idx h.1.2.1 1).bind fun G=>
      jp (fun (B:Int×pP×Int×Int×cX)=>
       some ((none:Option Int),A,B.1,B.2.1,B.2.2.1,B.2.2.2.1,B.2.2.2.2)
       ) fun L=>
      bif (cm .gtr (ar .or .i64 (sh .shl .i64 F 12) G) u) then
       (Sw.idx h.1.2.1 2).bind fun H=>
        (bif (!((fR K H).isSome)) then
         some true
        else
         (kE ((fR K H).getD ([]:eG))).bind fun U=>
          (Sw.sub h.1.2.1 3 (h.1.2.1.length:Int)).bind fun V=>
           (jL U V).bind fun X=>
            some (!X)).bind fun ub=>
         jp (fun (lv:Int)=>
          (Sw.idx h.1.2.1 2).bind fun ua=>
           L ((ar .or .i64 (sh .shl .i64 F 12) G),((ar .or .i64 (sh .shl .i64 F 12) G),0,([]:xC)),lv,(max YG ua),([]:cX))
          ) fun M=>
         bif ub then
          M (-1:Int)
         else
          M H
      else
       L (u,z,E,YG,YF)
   else
    bif (cm .lss u 0) then
     some ((none:Option Int),A,u,z,E,YG,YF)
    else
     (sE z I).bind fun C=>
      bif (Option.isSome C.2) then
       some (C.2,A,u,z,E,YG,YF)
      else
       (Sw.sub YF 0 (ar .sub .i64 (z.2.2.length:Int) (C.1.2.2.length:Int))).bind fun N=>
        lp (β:=Int) (fun (D:Int×Int)=>
         bif (cm .lss D.1 (N.length:Int)) then
          (Sw.idx N D.1).bind fun aa=>
           some (.next ((ar .add .i64 D.1 1),(max D.2 aa)))
         else
          some (.done (.XT D.2))
         ) (0,YG) fun (O:Int)=>
        (Sw.sub YF (ar .sub .i64 (z.2.2.length:Int) (C.1.2.2.length:Int)) (YF.length:Int)).bind fun ab=>
         (pS A Q (min O A.1)).bind fun P=>
          some (P.2,P.1,u,C.1,E,O,ab)
def dY(z:(Bool×Bool×cX))(b0 E F G:Int)(H:eG)(A:pI)(I:sL)(B:Int)(C:pP)(D YG:Int)(YF:cX)(YN YB YK YE:Int)(YJ:qW)(XZ:mP)(YW:Int)(YV:dP)(YU:Int)(YT:dP):Option (eE×pI×Int×pP×Int×Int×cX×Int×Int×qW×mP×Int×dP):=
 bif z.1 then
  (cI z.2.2 b0 E F G H A I B C D YG YF YN YB YK YE YJ XZ YW YV YU YT).bind fun h=>
   some (h.1,A,B,C,D,YG,YF,h.2.1,h.2.2.1,h.2.2.2.1,h.2.2.2.2.1,h.2.2.2.2.2.1,h.2.2.2.2.2.2)
 else
  (cP z.2.2 b0 E F G H A I B C D YG YF YN YB YK YE YJ XZ YW YV YU YT).bind fun u=>
   some (u.1,u.2.1,u.2.2.1,u.2.2.2.1,u.2.2.2.2.1,u.2.2.2.2.2.1,u.2.2.2.2.2.2,YB,YE,YJ,XZ,YU,YT)
def cT(I b0 D E F:Int)(G:eG)(z:pI)(H:sL)(A:Int)(B:pP)(C YG:Int)(YF:cX)(YN YB YK YE:Int)(YJ:qW)(XZ:mP)(YW:Int)(YV:dP)(YU:Int)(YT:dP):Option (eE×pI×Int×pP×Int×Int×cX×Int×Int×qW×mP×Int×dP):=
 (cD I b0 D E F G z H A B C YG YF YN YB YK YE YJ XZ YW YV YU YT).bind fun u=>
  bif (!u.2) then
   some ((none:Option Int),z,A,B,C,YG,YF,YB,YE,YJ,XZ,YU,YT)
  else
   (Sw.idx XZ u.1).bind fun K=>
    (dD XZ).bind fun L=>
     (cH L u.1 (ar .add .i64 u.1 1)).bind fun M=>
      (dY K b0 D E F G z H A B C YG YF YN YB YK YE YJ M YW YV YU YT).bind fun h=>
       some (h.1,h.2.1,h.2.2.1,h.2.2.2.1,h.2.2.2.2.1,h.2.2.2.2.2.1,h.2.2.2.2.2.2.1,h.2.2.2.2.2.2.2.1,h.2.2.2.2.2.2.2.2.1,h.2.2.2.2.2.2.2.2.2.1,h.2.2.2.2.2.2.2.2.2.2.1,h.2.2.2.2.2.2.2.2.2.2.2.1,h.2.2.2.2.2.2.2.2.2.2.2.2)
def nY(D:Pw)(b0 u z A:Int)(B:eG)(E:pI)(C:sL)(F:Int)(G:pP)(H YG:Int)(YF:cX)(YN YB YK YE:Int)(YJ:qW)(XZ:mP)(YW:Int)(YV:dP)(YU:Int)(YT:dP):Option (aR×eE×Int×Int×Int×Int×eG×pI×sL×Int×pP×Int×Int×cX×Int×Int×Int×Int×qW×mP×Int×dP×Int×dP):=
 (cT D.2.1 b0 u z A B E C F G H YG YF YN YB YK YE YJ XZ YW YV YU YT).bind fun h=>
  some (aQ,h.1,b0,u,z,A,B,h.2.1,C,h.2.2.1,h.2.2.2.1,h.2.2.2.2.1,h.2.2.2.2.2.1,h.2.2.2.2.2.2.1,YN,h.2.2.2.2.2.2.2.1,YK,h.2.2.2.2.2.2.2.2.1,h.2.2.2.2.2.2.2.2.2.1,h.2.2.2.2.2.2.2.2.2.2.1,YW,YV,h.2.2.2.2.2.2.2.2.2.2.2.1,h.2.2.2.2.2.2.2.2.2.2.2.2)
def gC(z b0 A B C:Int)(D:eG)(E:pI)(F:sL)(G:Int)(H:pP)(I YG:Int)(YF:cX)(YN YB YK YE:Int)(YJ:qW)(XZ:mP)(YW:Int)(YV:dP)(YU:Int)(YT:dP):Option (eE×mP):=
 (cD z b0 A B C D E F G H I YG YF YN YB YK YE YJ XZ YW YV YU YT).bind fun h=>
  jp (fun (K:mP)=>
   some ((none:Option Int),K)
   ) fun u=>
  bif h.2 then
   (dD XZ).bind fun L=>
    (cH L h.1 (ar .add .i64 h.1 1)).bind fun M=>
     u M
  else
   u XZ
def nZ(H:Pw)(b0 h u z:Int)(A:eG)(B:pI)(C:sL)(D:Int)(E:pP)(F YG:Int)(YF:cX)(YN YB YK YE:Int)(YJ:qW)(XZ:mP)(YW:Int)(YV:dP)(YU:Int)(YT:dP):Option (aR×eE×Int×Int×Int×Int×eG×pI×sL×Int×pP×Int×Int×cX×Int×Int×Int×Int×qW×mP×Int×dP×Int×dP):=
 (gC H.2.1 b0 h u z A B C D E F YG YF YN YB YK YE YJ XZ YW YV YU YT).bind fun G=>
  some (aQ,G.1,b0,h,u,z,A,B,C,D,E,F,YG,YF,YN,YB,YK,YE,YJ,G.2,YW,YV,YU,YT)
def eS(z b0 A B C:Int)(D:eG)(E:pI)(F:sL)(G:Int)(H:pP)(I YG:Int)(YF:cX)(YN YB YK YE:Int)(YJ:qW)(XZ:mP)(YW:Int)(YV:dP)(YU:Int)(YT:dP):Option (eE×mP):=
 (cD z b0 A B C D E F G H I YG YF YN YB YK YE YJ XZ YW YV YU YT).bind fun h=>
  (bif h.2 then
   some (cm .lss (XZ.length:Int) 64)
  else
   some false).bind fun K=>
   jp (fun (L:mP)=>
    some ((none:Option Int),L)
    ) fun u=>
   bif K then
    (Sw.idx XZ h.1).bind fun M=>
     (Sw.app XZ ([M]:mP)).bind fun N=>
      u N
   else
    u XZ
def oA(H:Pw)(b0 h u z:Int)(A:eG)(B:pI)(C:sL)(D:Int)(E:pP)(F YG:Int)(YF:cX)(YN YB YK YE:Int)(YJ:qW)(XZ:mP)(YW:Int)(YV:dP)(YU:Int)(YT:dP):Option (aR×eE×Int×Int×Int×Int×eG×pI×sL×Int×pP×Int×Int×cX×Int×Int×Int×Int×qW×mP×Int×dP×Int×dP):=
 (eS H.2.1 b0 h u z A B C D E F YG YF YN YB YK YE YJ XZ YW YV YU YT).bind fun G=>
  some (aQ,G.1,b0,h,u,z,A,B,C,D,E,F,YG,YF,YN,YB,YK,YE,YJ,G.2,YW,YV,YU,YT)
def mF(h:(Int×dP)):Option (dP):=
 (aP h.2.1).bind fun u=>
  (bV h.2.2.1).bind fun z=>
   some (u,z,h.2.2.2)
def iF(XG:Int)(XP:dP)(z:Int):Option ((Option (Int×dP))×eE×Int×dP):=
 (mF (XG,XP)).bind fun A=>
  (mZ A z).bind fun h=>
   vF h.1 (
    some ((none:(Option (Int×dP))),h.2,XG,XP)
    ) fun u=>
    some ((some (u.1,u.2)),h.2,XG,XP)
def jA(b0 B z A:Int)(C:eG)(D:pI)(E:sL)(F:Int)(G:pP)(H YG:Int)(YF:cX)(YN YB YK YE:Int)(YJ:qW)(XZ:mP)(YW:Int)(YV:dP)(YU:Int)(YT:dP):Option (eE×Int×Int×Int×dP):=
 (gA (YU,YT)).bind fun h=>
  bif (Option.isSome h.2.2) then
   some (h.2.2,z,A,YU,YT)
  else
   (dA YU YT ([]:mT) h.1 (ar .add .i64 h.2.1 1)).bind fun u=>
    some (u.1,h.1,(ar .add .i64 h.2.1 1),u.2.1,u.2.2)
def gF(b0 C D E:Int)(F:eG)(G:pI)(H:sL)(I:Int)(K:pP)(L YG:Int)(YF:cX)(YN YB YK YE:Int)(YJ:qW)(XZ:mP)(YW:Int)(YV:dP)(YU:Int)(YT:dP)(z:Int)(A:dP):Option (eE×Int×Int×Int×eG×pI×sL×Int×pP×Int×Int×cX×Int×dP):=
 (jA b0 b0 0 0 ([]:eG) (0,([]:mT),([]:sR),false) ([]:List (Int×eG)) (-1:Int) (0,0,([]:xC)) 0 0 ([]:cX) YN YB YK YE YJ XZ YU YT z A).bind fun h=>
  bif (Option.isSome h.1) then
   some (h.1,b0,h.2.1,h.2.2.1,([]:eG),(0,([]:mT),([]:sR),false),([]:List (Int×eG)),(-1:Int),(0,0,([]:xC)),0,0,([]:cX),h.2.2.2.1,h.2.2.2.2)
  else
   (gE h.2.2.2).bind fun u=>
    (eR b0 b0 h.2.1 h.2.2.1 u.1 (h.2.1,([]:mT),([]:sR),true) ([]:List (Int×eG)) (-1:Int) (0,0,([]:xC)) 0 0 ([]:cX) YN YB YK YE YJ XZ h.2.2.2.1 h.2.2.2.2 YU YT).bind fun B=>
     some (u.2,b0,h.2.1,h.2.2.1,u.1,(h.2.1,([]:mT),([]:sR),true),B,(-1:Int),(0,0,([]:xC)),0,0,([]:cX),h.2.2.2.1,h.2.2.2.2)
def kY(N:Pw)(b0 A B C:Int)(D:eG)(E:pI)(F:sL)(G:Int)(H:pP)(I YG:Int)(YF:cX)(YN YB YK YE:Int)(YJ:qW)(XZ:mP)(YW:Int)(YV:dP)(YU:Int)(YT:dP):Option (aR×eE×Int×Int×Int×Int×eG×pI×sL×Int×pP×Int×Int×cX×Int×Int×Int×Int×qW×mP×Int×dP×Int×dP):=
 (iF YW YV b0).bind fun z=>
  vF z.1 (
   jp (fun (_:Unit)=>
    some (aQ,z.2.1,b0,A,B,C,D,E,F,G,H,I,YG,YF,YN,YB,YK,YE,YJ,XZ,z.2.2.1,z.2.2.2,YU,YT)
    ) fun M=>
   bif (Option.isNone z.2.1) then
    none
   else
    M ()
   ) fun K=>
   jp (fun (h:eE×Int×Int×Int×pI×Int×pP×Int×Int×Int×dP×eG×sL×cX)=>
    some (aQ,h.1,b0,h.2.1,h.2.2.1,h.2.2.2.1,h.2.2.2.2.2.2.2.2.2.2.2.1,h.2.2.2.2.1,h.2.2.2.2.2.2.2.2.2.2.2.2.1,h.2.2.2.2.2.1,h.2.2.2.2.2.2.1,h.2.2.2.2.2.2.2.1,h.2.2.2.2.2.2.2.2.1,h.2.2.2.2.2.2.2.2.2.2.2.2.2,YN,YB,YK,YE,YJ,XZ,h.2.2.2.2.2.2.2.2.2.1,h.2.2.2.2.2.2.2.2.2.2.1,YU,YT)
    ) fun L=>
   bif (Option.isNone z.2.1) then
    (gF b0 A B C D E F G H I YG YF YN YB YK YE YJ XZ z.2.2.1 z.2.2.2 YU YT K.1 K.2).bind fun u=>
     L (u.1,u.2.1,u.2.2.1,u.2.2.2.1,u.2.2.2.2.2.1,u.2.2.2.2.2.2.2.1,u.2.2.2.2.2.2.2.2.1,u.2.2.2.2.2.2.2.2.2.1,u.2.2.2.2.2.2.2.2.2.2.1,u.2.2.2.2.2.2.2.2.2.2.2.2.1,u.2.2.2.2.2.2.2.2.2.2.2.2.2,u.2.2.2.2.1,u.2.2.2.2.2.2.1,u.2.2.2.2.2.2.2.2.2.2.2.1)
   else
    L (z.2.1,A,B,C,E,G,H,I,YG,z.2.2.1,z.2.2.2,D,F,YF)
def gG(b0 u z A:Int)(B:eG)(C:pI)(D:sL)(E:Int)(F:pP)(G YG:Int)(YF:cX)(YN YB YK YE:Int)(YJ:qW)(XZ:mP)(YW:Int)(YV:dP)(YU:Int)(YT:dP)(H:Int)(I:dP):Option (eE×Int×Int×Int×Int×qW×Int×dP):=
 (gI b0 u z A B C D E F G YG YF b0 0 0 (-1:Int) (0,0) XZ YW YV H I).bind fun h=>
  some (h.1,b0,h.2.1,h.2.2.1,(-1:Int),(0,0),h.2.2.2.1,h.2.2.2.2)
def kL(N:Pw)(b0 A B C:Int)(D:eG)(E:pI)(F:sL)(G:Int)(H:pP)(I YG:Int)(YF:cX)(YN YB YK YE:Int)(YJ:qW)(XZ:mP)(YW:Int)(YV:dP)(YU:Int)(YT:dP):Option (aR×eE×Int×Int×Int×Int×eG×pI×sL×Int×pP×Int×Int×cX×Int×Int×Int×Int×qW×mP×Int×dP×Int×dP):=
 (iF YU YT b0).bind fun h=>
  vF h.1 (
   jp (fun (_:Unit)=>
    some (aQ,h.2.1,b0,A,B,C,D,E,F,G,H,I,YG,YF,YN,YB,YK,YE,YJ,XZ,YW,YV,h.2.2.1,h.2.2.2)
    ) fun M=>
   bif (Option.isNone h.2.1) then
    none
   else
    M ()
   ) fun K=>
   jp (fun (u:eE×Int×Int×Int×Int×qW×Int×dP)=>
    some (aQ,u.1,b0,A,B,C,D,E,F,G,H,I,YG,YF,u.2.1,u.2.2.1,u.2.2.2.1,u.2.2.2.2.1,u.2.2.2.2.2.1,XZ,YW,YV,u.2.2.2.2.2.2.1,u.2.2.2.2.2.2.2)
    ) fun L=>
   bif (Option.isNone h.2.1) then
    (gG b0 A B C D E F G H I YG YF YN YB YK YE YJ XZ YW YV h.2.2.1 h.2.2.2 K.1 K.2).bind fun z=>
     L (z.1,z.2.1,z.2.2.1,z.2.2.2.1,z.2.2.2.2.1,z.2.2.2.2.2.1,z.2.2.2.2.2.2.1,z.2.2.2.2.2.2.2)
   else
    L (h.2.1,YN,YB,YK,YE,YJ,h.2.2.1,h.2.2.2)
def qD(h:(Bool×cX)):Option (cX):=
 bif h.1 then
  some ([]:cX)
 else
  (Sw.app ([]:cX) h.2).bind fun u=>
   some u
def nM(h:cX):Option cX:=Sw.app [] h
def eT(h:Pw)(b0 A B C:Int)(D:eG)(E:pI)(F:sL)(G:Int)(H:pP)(I YG:Int)(YF:cX)(YN YB YK YE:Int)(YJ:qW)(XZ:mP)(YW:Int)(YV:dP)(YU:Int)(YT:dP):Option (eE×mP):=
 (cD h.2.1 b0 A B C D E F G H I YG YF YN YB YK YE YJ XZ YW YV YU YT).bind fun z=>
  (bif (!z.2) then
   some true
  else
   (Sw.idx XZ z.1).bind fun K=>
    some K.2.1).bind fun L=>
   bif L then
    some ((none:Option Int),XZ)
   else
    (Sw.idx XZ z.1).bind fun M=>
     (nM M.2.2).bind fun u=>
      (nz (u.length:Int)).bind fun _=>
       (Sw.idx u (ar .rem .i64 (max h.2.2.1 (IntKind.wrap .i64 (0 - (ar .add .i64 h.2.2.1 1)))) (u.length:Int))).bind fun N=>
        (Sw.idx h.2.2.2 0).bind fun O=>
         (Sw.idx u (ar .rem .i64 (max h.2.2.1 (IntKind.wrap .i64 (0 - (ar .add .i64 h.2.2.1 1)))) (u.length:Int))).bind fun _=>
          (Sw.idx XZ z.1).bind fun P=>
           (Sw.idx XZ z.1).bind fun _=>
            some ((none:Option Int),(List.set XZ (Int.toNat z.1) (P.1,true,(List.set u (Int.toNat (ar .rem .i64 (max h.2.2.1 (IntKind.wrap .i64 (0 - (ar .add .i64 h.2.2.1 1)))) (u.length:Int))) (ar .xor .u8 N (ar .or .u8 O 1))))))
def nC(H:Pw)(b0 h u z:Int)(A:eG)(B:pI)(C:sL)(D:Int)(E:pP)(F YG:Int)(YF:cX)(YN YB YK YE:Int)(YJ:qW)(XZ:mP)(YW:Int)(YV:dP)(YU:Int)(YT:dP):Option (aR×eE×Int×Int×Int×Int×eG×pI×sL×Int×pP×Int×Int×cX×Int×Int×Int×Int×qW×mP×Int×dP×Int×dP):=
 (eT H b0 h u z A B C D E F YG YF YN YB YK YE YJ XZ YW YV YU YT).bind fun G=>
  some (aQ,G.1,b0,h,u,z,A,B,C,D,E,F,YG,YF,YN,YB,YK,YE,YJ,G.2,YW,YV,YU,YT)
def wP(i:Nat)(h:Pw)(b0 u z A:Int)(B:eG)(C:pI)(D:sL)(E:Int)(F:pP)(G YG:Int)(YF:cX)(YN YB YK YE:Int)(YJ:qW)(XZ:mP)(YW:Int)(YV:dP)(YU:Int)(YT:dP):Option (aR×eE×Int×Int×Int×Int×eG×pI×sL×Int×pP×Int×Int×cX×Int×Int×Int×Int×qW×mP×Int×dP×Int×dP):=match i with
 | 0=>nT h b0 u z A B C D E F G YG YF YN YB YK YE YJ XZ YW YV YU YT
 | 1=>nU h b0 u z A B C D E F G YG YF YN YB YK YE YJ XZ YW YV YU YT
 | 2=>nV h b0 u z A B C D E F G YG YF YN YB YK YE YJ XZ YW YV YU YT
 | 3=>nW h b0 u z A B C D E F G YG YF YN YB YK YE YJ XZ YW YV YU YT
 | 4=>nX h b0 u z A B C D E F G YG YF YN YB YK YE YJ XZ YW YV YU YT
 | 5=>nY h b0 u z A B C D E F G YG YF YN YB YK YE YJ XZ YW YV YU YT
 | 6=>nZ h b0 u z A B C D E F G YG YF YN YB YK YE YJ XZ YW YV YU YT
 | 7=>oA h b0 u z A B C D E F G YG YF YN YB YK YE YJ XZ YW YV YU YT
 | 8=>kY h b0 u z A B C D E F G YG YF YN YB YK YE YJ XZ YW YV YU YT
 | 9=>kL h b0 u z A B C D E F G YG YF YN YB YK YE YJ XZ YW YV YU YT
 | 10=>nC h b0 u z A B C D E F G YG YF YN YB YK YE YJ XZ YW YV YU YT
 |_=>none
def dZ(h:(Int×aR×Int×Int×Int×eG))(b0 A z B:Int)(C:eG)(D:pI)(E:sL)(F:Int)(G:pP)(H YG:Int)(YF:cX)(YN YB YK YE:Int)(YJ:qW)(XZ:mP)(YW:Int)(YV:dP)(YU:Int)(YT:dP):Option ((Int×aR×Int×Int×Int×eG)×eE):=
 (gE (YU,YT)).bind fun u=>
  some ((h.1,h.2.1,z,YG,YB,u.1),u.2)
def iC(z:Pw)(b0 B C D:Int)(E:eG)(F:pI)(G:sL)(H:Int)(I:pP)(K YG:Int)(YF:cX)(YN YB YK YE:Int)(YJ:qW)(XZ:mP)(YW:Int)(YV:dP)(YU:Int)(YT:dP):Option ((Int×aR×Int×Int×Int×eG)×eE×Int×Int×Int×Int×eG×pI×sL×Int×pP×Int×Int×cX×Int×Int×Int×Int×qW×mP×Int×dP×Int×dP):=
 (bif (cm .lss z.1 0) then
  some true
 else
  some (cm .geq z.1 11)).bind fun N=>
  jp (fun (u:Int×Int×Int×Int×pI×Int×pP×Int×Int×Int×Int×Int×Int×qW×Int×aR×Int×dP×eG×sL×cX×Int×dP×mP)=>
   (dZ (u.2.2.2.2.2.2.2.2.2.2.2.2.2.2.1,u.2.2.2.2.2.2.2.2.2.2.2.2.2.2.2.1,0,0,0,([]:eG)) u.1 u.2.1 u.2.2.1 u.2.2.2.1 u.2.2.2.2.2.2.2.2.2.2.2.2.2.2.2.2.2.2.1 u.2.2.2.2.1 u.2.2.2.2.2.2.2.2.2.2.2.2.2.2.2.2.2.2.2.1 u.2.2.2.2.2.1 u.2.2.2.2.2.2.1 u.2.2.2.2.2.2.2.1 u.2.2.2.2.2.2.2.2.1 u.2.2.2.2.2.2.2.2.2.2.2.2.2.2.2.2.2.2.2.2.1 u.2.2.2.2.2.2.2.2.2.1 u.2.2.2.2.2.2.2.2.2.2.1 u.2.2.2.2.2.2.2.2.2.2.2.1 u.2.2.2.2.2.2.2.2.2.2.2.2.1 u.2.2.2.2.2.2.2.2.2.2.2.2.2.1 u.2.2.2.2.2.2.2.2.2.2.2.2.2.2.2.2.2.2.2.2.2.2.2 u.2.2.2.2.2.2.2.2.2.2.2.2.2.2.2.2.1 u.2.2.2.2.2.2.2.2.2.2.2.2.2.2.2.2.2.1 u.2.2.2.2.2.2.2.2.2.2.2.2.2.2.2.2.2.2.2.2.2.1 u.2.2.2.2.2.2.2.2.2.2.2.2.2.2.2.2.2.2.2.2.2.2.1).bind fun L=>
    some (L.1,L.2,u.1,u.2.1,u.2.2.1,u.2.2.2.1,u.2.2.2.2.2.2.2.2.2.2.2.2.2.2.2.2.2.2.1,u.2.2.2.2.1,u.2.2.2.2.2.2.2.2.2.2.2.2.2.2.2.2.2.2.2.1,u.2.2.2.2.2.1,u.2.2.2.2.2.2.1,u.2.2.2.2.2.2.2.1,u.2.2.2.2.2.2.2.2.1,u.2.2.2.2.2.2.2.2.2.2.2.2.2.2.2.2.2.2.2.2.1,u.2.2.2.2.2.2.2.2.2.1,u.2.2.2.2.2.2.2.2.2.2.1,u.2.2.2.2.2.2.2.2.2.2.2.1,u.2.2.2.2.2.2.2.2.2.2.2.2.1,u.2.2.2.2.2.2.2.2.2.2.2.2.2.1,u.2.2.2.2.2.2.2.2.2.2.2.2.2.2.2.2.2.2.2.2.2.2.2,u.2.2.2.2.2.2.2.2.2.2.2.2.2.2.2.2.1,u.2.2.2.2.2.2.2.2.2.2.2.2.2.2.2.2.2.1,u.2.2.2.2.2.2.2.2.2.2.2.2.2.2.2.2.2.2.2.2.2.1,u.2.2.2.2.2.2.2.2.2.2.2.2.2.2.2.2.2.2.2.2.2.2.1)
   ) fun M=>
  bif N then
   M (b0,B,C,D,F,H,I,K,YG,YN,YB,YK,YE,YJ,3,aQ,YW,YV,E,G,YF,YU,YT,XZ)
  else
   (uP z.1).bind fun O=>
    (wP O z b0 B C D E F G H I K YG YF YN YB YK YE YJ XZ YW YV YU YT).bind fun h=>
     (bif (Option.isSome h.2.1) then
      some ((!(Option.isSome h.2.1)),(Option.getD h.2.1 0))
     else
      some (false,0)).bind fun A=>
      bif A.1 then
       some ((A.2,aQ,0,0,0,([]:eG)),h.2.1,h.2.2.1,h.2.2.2.1,h.2.2.2.2.1,h.2.2.2.2.2.1,h.2.2.2.2.2.2.1,h.2.2.2.2.2.2.2.1,h.2.2.2.2.2.2.2.2.1,h.2.2.2.2.2.2.2.2.2.1,h.2.2.2.2.2.2.2.2.2.2.1,h.2.2.2.2.2.2.2.2.2.2.2.1,h.2.2.2.2.2.2.2.2.2.2.2.2.1,h.2.2.2.2.2.2.2.2.2.2.2.2.2.1,h.2.2.2.2.2.2.2.2.2.2.2.2.2.2.1,h.2.2.2.2.2.2.2.2.2.2.2.2.2.2.2.1,h.2.2.2.2.2.2.2.2.2.2.2.2.2.2.2.2.1,h.2.2.2.2.2.2.2.2.2.2.2.2.2.2.2.2.2.1,h.2.2.2.2.2.2.2.2.2.2.2.2.2.2.2.2.2.2.1,h.2.2.2.2.2.2.2.2.2.2.2.2.2.2.2.2.2.2.2.1,h.2.2.2.2.2.2.2.2.2.2.2.2.2.2.2.2.2.2.2.2.1,h.2.2.2.2.2.2.2.2.2.2.2.2.2.2.2.2.2.2.2.2.2.1,h.2.2.2.2.2.2.2.2.2.2.2.2.2.2.2.2.2.2.2.2.2.2.1,h.2.2.2.2.2.2.2.2.2.2.2.2.2.2.2.2.2.2.2.2.2.2.2)
      else
       M (h.2.2.1,h.2.2.2.1,h.2.2.2.2.1,h.2.2.2.2.2.1,h.2.2.2.2.2.2.2.1,h.2.2.2.2.2.2.2.2.2.1,h.2.2.2.2.2.2.2.2.2.2.1,h.2.2.2.2.2.2.2.2.2.2.2.1,h.2.2.2.2.2.2.2.2.2.2.2.2.1,h.2.2.2.2.2.2.2.2.2.2.2.2.2.2.1,h.2.2.2.2.2.2.2.2.2.2.2.2.2.2.2.1,h.2.2.2.2.2.2.2.2.2.2.2.2.2.2.2.2.1,h.2.2.2.2.2.2.2.2.2.2.2.2.2.2.2.2.2.1,h.2.2.2.2.2.2.2.2.2.2.2.2.2.2.2.2.2.2.1,A.2,h.1,h.2.2.2.2.2.2.2.2.2.2.2.2.2.2.2.2.2.2.2.2.1,h.2.2.2.2.2.2.2.2.2.2.2.2.2.2.2.2.2.2.2.2.2.1,h.2.2.2.2.2.2.1,h.2.2.2.2.2.2.2.2.1,h.2.2.2.2.2.2.2.2.2.2.2.2.2.1,h.2.2.2.2.2.2.2.2.2.2.2.2.2.2.2.2.2.2.2.2.2.2.1,h.2.2.2.2.2.2.2.2.2.2.2.2.2.2.2.2.2.2.2.2.2.2.2,h.2.2.2.2.2.2.2.2.2.2.2.2.2.2.2.2.2.2.2.1)
def iT(D:Int)(B:pZ):Option ((Option (Int×Int×Int×Int×eG×pI×sL×Int×pP×Int×Int×cX×Int×Int×Int×Int×qW×mP×Int×dP×Int×dP))×Lj×eE):=
 (bif (cm .lss D 1) then
  some true
 else
  some (cm .gtr D 32)).bind fun E=>
  bif E then
   some ((none:_),([]:Lj),(some 1))
  else
   bif (cm .gtr (B.length:Int) 300) then
    some ((none:_),([]:Lj),(some 2))
   else
    (iN D).bind fun C=>
     vF C.1 (
      bif (Option.isSome C.2) then
       some ((none:_),([]:Lj),C.2)
      else
       lp (β:=Unit) (fun (_:Unit)=>
        bif (cm .lss 0 (B.length:Int)) then
         (Sw.idx B 0).bind fun _=>
          none
        else
         some (.done (.XT ()))
        ) () fun (_:Unit)=>
       some ((none:_),([]:Lj),(none:Option Int))
      ) fun A=>
      bif (Option.isSome C.2) then
       some ((none:_),([]:Lj),C.2)
      else
       lp (β:=Int×Int×Int×Int×pI×Int×pP×Int×Int×Int×Int×Int×Int×qW×Lj×Int×dP×eG×sL×cX×Int×dP×mP) (fun (h:Int×Int×Int×Int×Int×pI×Int×pP×Int×Int×Int×Int×Int×Int×qW×Lj×Int×dP×eG×sL×cX×Int×dP×mP)=>
        bif (cm .lss h.1 (B.length:Int)) then
         (Sw.idx B h.1).bind fun F=>
          (iC F h.2.1 h.2.2.1 h.2.2.2.1 h.2.2.2.2.1 h.2.2.2.2.2.2.2.2.2.2.2.2.2.2.2.2.2.2.1 h.2.2.2.2.2.1 h.2.2.2.2.2.2.2.2.2.2.2.2.2.2.2.2.2.2.2.1 h.2.2.2.2.2.2.1 h.2.2.2.2.2.2.2.1 h.2.2.2.2.2.2.2.2.1 h.2.2.2.2.2.2.2.2.2.1 h.2.2.2.2.2.2.2.2.2.2.2.2.2.2.2.2.2.2.2.2.1 h.2.2.2.2.2.2.2.2.2.2.1 h.2.2.2.2.2.2.2.2.2.2.2.1 h.2.2.2.2.2.2.2.2.2.2.2.2.1 h.2.2.2.2.2.2.2.2.2.2.2.2.2.1 h.2.2.2.2.2.2.2.2.2.2.2.2.2.2.1 h.2.2.2.2.2.2.2.2.2.2.2.2.2.2.2.2.2.2.2.2.2.2.2 h.2.2.2.2.2.2.2.2.2.2.2.2.2.2.2.2.1 h.2.2.2.2.2.2.2.2.2.2.2.2.2.2.2.2.2.1 h.2.2.2.2.2.2.2.2.2.2.2.2.2.2.2.2.2.2.2.2.2.1 h.2.2.2.2.2.2.2.2.2.2.2.2.2.2.2.2.2.2.2.2.2.2.1).bind fun u=>
           bif (Option.isSome u.2.1) then
            some (.done (.ret ((none:_),([]:Lj),u.2.1)))
           else
            (Sw.app h.2.2.2.2.2.2.2.2.2.2.2.2.2.2.2.1 ([u.1]:Lj)).bind fun G=>
             some (.next ((ar .add .i64 h.1 1),u.2.2.1,u.2.2.2.1,u.2.2.2.2.1,u.2.2.2.2.2.1,u.2.2.2.2.2.2.2.1,u.2.2.2.2.2.2.2.2.2.1,u.2.2.2.2.2.2.2.2.2.2.1,u.2.2.2.2.2.2.2.2.2.2.2.1,u.2.2.2.2.2.2.2.2.2.2.2.2.1,u.2.2.2.2.2.2.2.2.2.2.2.2.2.2.1,u.2.2.2.2.2.2.2.2.2.2.2.2.2.2.2.1,u.2.2.2.2.2.2.2.2.2.2.2.2.2.2.2.2.1,u.2.2.2.2.2.2.2.2.2.2.2.2.2.2.2.2.2.1,u.2.2.2.2.2.2.2.2.2.2.2.2.2.2.2.2.2.2.1,G,u.2.2.2.2.2.2.2.2.2.2.2.2.2.2.2.2.2.2.2.2.1,u.2.2.2.2.2.2.2.2.2.2.2.2.2.2.2.2.2.2.2.2.2.1,u.2.2.2.2.2.2.1,u.2.2.2.2.2.2.2.2.1,u.2.2.2.2.2.2.2.2.2.2.2.2.2.1,u.2.2.2.2.2.2.2.2.2.2.2.2.2.2.2.2.2.2.2.2.2.2.1,u.2.2.2.2.2.2.2.2.2.2.2.2.2.2.2.2.2.2.2.2.2.2.2,u.2.2.2.2.2.2.2.2.2.2.2.2.2.2.2.2.2.2.2.1))
        else
         some (.done (.XT (h.2.1,h.2.2.1,h.2.2.2.1,h.2.2.2.2.1,h.2.2.2.2.2.1,h.2.2.2.2.2.2.1,h.2.2.2.2.2.2.2.1,h.2.2.2.2.2.2.2.2.1,h.2.2.2.2.2.2.2.2.2.1,h.2.2.2.2.2.2.2.2.2.2.1,h.2.2.2.2.2.2.2.2.2.2.2.1,h.2.2.2.2.2.2.2.2.2.2.2.2.1,h.2.2.2.2.2.2.2.2.2.2.2.2.2.1,h.2.2.2.2.2.2.2.2.2.2.2.2.2.2.1,h.2.2.2.2.2.2.2.2.2.2.2.2.2.2.2.1,h.2.2.2.2.2.2.2.2.2.2.2.2.2.2.2.2.1,h.2.2.2.2.2.2.2.2.2.2.2.2.2.2.2.2.2.1,h.2.2.2.2.2.2.2.2.2.2.2.2.2.2.2.2.2.2.1,h.2.2.2.2.2.2.2.2.2.2.2.2.2.2.2.2.2.2.2.1,h.2.2.2.2.2.2.2.2.2.2.2.2.2.2.2.2.2.2.2.2.1,h.2.2.2.2.2.2.2.2.2.2.2.2.2.2.2.2.2.2.2.2.2.1,h.2.2.2.2.2.2.2.2.2.2.2.2.2.2.2.2.2.2.2.2.2.2.1,h.2.2.2.2.2.2.2.2.2.2.2.2.2.2.2.2.2.2.2.2.2.2.2)))
        ) (0,A.1,A.2.1,A.2.2.1,A.2.2.2.1,A.2.2.2.2.2.1,A.2.2.2.2.2.2.2.1,A.2.2.2.2.2.2.2.2.1,A.2.2.2.2.2.2.2.2.2.1,A.2.2.2.2.2.2.2.2.2.2.1,A.2.2.2.2.2.2.2.2.2.2.2.2.1,A.2.2.2.2.2.2.2.2.2.2.2.2.2.1,A.2.2.2.2.2.2.2.2.2.2.2.2.2.2.1,A.2.2.2.2.2.2.2.2.2.2.2.2.2.2.2.1,A.2.2.2.2.2.2.2.2.2.2.2.2.2.2.2.2.1,([]:Lj),A.2.2.2.2.2.2.2.2.2.2.2.2.2.2.2.2.2.2.1,A.2.2.2.2.2.2.2.2.2.2.2.2.2.2.2.2.2.2.2.1,A.2.2.2.2.1,A.2.2.2.2.2.2.1,A.2.2.2.2.2.2.2.2.2.2.2.1,A.2.2.2.2.2.2.2.2.2.2.2.2.2.2.2.2.2.2.2.2.1,A.2.2.2.2.2.2.2.2.2.2.2.2.2.2.2.2.2.2.2.2.2,A.2.2.2.2.2.2.2.2.2.2.2.2.2.2.2.2.2.1) fun (z:Int×Int×Int×Int×pI×Int×pP×Int×Int×Int×Int×Int×Int×qW×Lj×Int×dP×eG×sL×cX×Int×dP×mP)=>
       some ((some (z.1,z.2.1,z.2.2.1,z.2.2.2.1,z.2.2.2.2.2.2.2.2.2.2.2.2.2.2.2.2.2.1,z.2.2.2.2.1,z.2.2.2.2.2.2.2.2.2.2.2.2.2.2.2.2.2.2.1,z.2.2.2.2.2.1,z.2.2.2.2.2.2.1,z.2.2.2.2.2.2.2.1,z.2.2.2.2.2.2.2.2.1,z.2.2.2.2.2.2.2.2.2.2.2.2.2.2.2.2.2.2.2.1,z.2.2.2.2.2.2.2.2.2.1,z.2.2.2.2.2.2.2.2.2.2.1,z.2.2.2.2.2.2.2.2.2.2.2.1,z.2.2.2.2.2.2.2.2.2.2.2.2.1,z.2.2.2.2.2.2.2.2.2.2.2.2.2.1,z.2.2.2.2.2.2.2.2.2.2.2.2.2.2.2.2.2.2.2.2.2.2,z.2.2.2.2.2.2.2.2.2.2.2.2.2.2.2.1,z.2.2.2.2.2.2.2.2.2.2.2.2.2.2.2.2.1,z.2.2.2.2.2.2.2.2.2.2.2.2.2.2.2.2.2.2.2.2.1,z.2.2.2.2.2.2.2.2.2.2.2.2.2.2.2.2.2.2.2.2.2.1)),z.2.2.2.2.2.2.2.2.2.2.2.2.2.2.1,(none:Option Int))
def Nv(u:eE)(h:Int):Option (Bool):=
 bif (Option.isNone u) then
  some (cm .eql h 0)
 else
  (bif (cm .neq h 0) then
   some (u==(some h))
  else
   some false).bind fun z=>
   some z
def kV(h:Int):Option ((Option (eG×(List eG)))):=
 (Sw.mk h aQ).bind fun u=>
  (Sw.mk h aQ).bind fun z=>
   (Sw.app ([]:(List eG)) ([z]:(List eG))).bind fun A=>
    some (some (u,A))
def jS(h:eG):Option (eG):=
 (Sw.app ([]:eG) h).bind fun u=>
  some u
def fK(h:(eG×(List eG))):Option (Int):=
 some (ar .sub .i64 (h.2.length:Int) 1)
def iU(XG:eG)(XP:(List eG))(h:Pw):Option (Int×aR×eG×(List eG)):=
 (bif (cm .lss h.1 0) then
  some true
 else
  some (cm .geq h.1 11)).bind fun u=>
  bif u then
   some (3,aQ,XG,XP)
  else
   (bif (cm .eql h.1 0) then
    bif (cm .lss h.2.1 0) then
     some true
    else
     some (cm .geq h.2.1 (XG.length:Int))
   else
    bif (cm .eql h.1 1) then
     bif (cm .lss h.2.1 0) then
      some true
     else
      some (cm .geq h.2.1 (XG.length:Int))
    else
     bif (cm .eql h.1 2) then
      bif (cm .lss h.2.1 0) then
       some true
      else
       some (cm .geq h.2.1 (XG.length:Int))
     else
      some false).bind fun z=>
    bif z then
     some (1,aQ,XG,XP)
    else
     bif (cm .eql h.1 0) then
      (Sw.idx XG h.2.1).bind fun _=>
       some (0,aQ,(List.set XG (Int.toNat h.2.1) h.2.2.2),XP)
     else
      bif (cm .eql h.1 1) then
       (Sw.idx XG h.2.1).bind fun _=>
        some (0,aQ,(List.set XG (Int.toNat h.2.1) aQ),XP)
      else
       bif (cm .eql h.1 2) then
        (Sw.idx XG h.2.1).bind fun A=>
         some (0,A,XG,XP)
       else
        bif (cm .eql h.1 3) then
         (jS XG).bind fun B=>
          (Sw.app XP ([B]:(List eG))).bind fun C=>
           some (0,aQ,XG,C)
        else
         bif (cm .eql h.1 8) then
          (fK (XG,XP)).bind fun D=>
           (Sw.idx XP D).bind fun E=>
            (jS E).bind fun F=>
             some (0,aQ,F,XP)
         else
          some (0,aQ,XG,XP)
def oQ(u z:eG):Option (Bool):=
 bif (cm .neq (u.length:Int) (z.length:Int)) then
  some false
 else
  lp (β:=Unit) (fun (h:Int)=>
   bif (cm .lss h (u.length:Int)) then
    (Sw.idx u h).bind fun A=>
     (Sw.idx z h).bind fun B=>
      bif (!decide (A=B)) then
       some (.done (.ret false))
      else
       some (.next (ar .add .i64 h 1))
   else
    some (.done (.XT ()))
   ) 0 fun (_:Unit)=>
  some true
def fQ(F:Int)(G:pZ):Option ((Int×aR×Int×Int×Int×eG)×Int×eE):=
 (iT F G).bind fun D=>
  vF D.1 (
   bif (Option.isSome D.2.2) then
    some ((0,aQ,0,0,0,([]:eG)),0,D.2.2)
   else
    lp (β:=Unit) (fun (_:Unit)=>
     lp (β:=Unit) (fun (_:Unit)=>
      none
      ) () fun (_:Unit)=>
     none
     ) () fun (_:Unit)=>
    none
   ) fun h=>
   bif (Option.isSome D.2.2) then
    some ((0,aQ,0,0,0,([]:eG)),0,D.2.2)
   else
    lp (β:=Unit) (fun (A:Int×pI×Int×pP×Int×Int×Int×Int×qW×cX×Int×dP×mP)=>
     lp (β:=pI×Int×pP×Int×Int×Int×Int×qW×cX×Int×dP×mP) (fun (z:pI×Int×pP×Int×Int×Int×Int×qW×cX×Int×dP×mP)=>
      bif (cm .gtr (z.2.2.2.2.2.2.2.2.2.2.2.length:Int) 0) then
       (cT 0 h.1 h.2.1 h.2.2.1 h.2.2.2.1 h.2.2.2.2.1 z.1 h.2.2.2.2.2.2.1 z.2.1 z.2.2.1 z.2.2.2.1 z.2.2.2.2.1 z.2.2.2.2.2.2.2.2.1 h.2.2.2.2.2.2.2.2.2.2.2.2.1 z.2.2.2.2.2.1 h.2.2.2.2.2.2.2.2.2.2.2.2.2.2.1 z.2.2.2.2.2.2.1 z.2.2.2.2.2.2.2.1 z.2.2.2.2.2.2.2.2.2.2.2 h.2.2.2.2.2.2.2.2.2.2.2.2.2.2.2.2.2.2.1 h.2.2.2.2.2.2.2.2.2.2.2.2.2.2.2.2.2.2.2.1 z.2.2.2.2.2.2.2.2.2.1 z.2.2.2.2.2.2.2.2.2.2.1).bind fun B=>
        bif (Option.isSome B.1) then
         some (.done (.ret (.done (.ret ((0,aQ,0,0,0,([]:eG)),0,B.1)))))
        else
         some (.next (B.2.1,B.2.2.1,B.2.2.2.1,B.2.2.2.2.1,B.2.2.2.2.2.1,B.2.2.2.2.2.2.2.1,B.2.2.2.2.2.2.2.2.1,B.2.2.2.2.2.2.2.2.2.1,B.2.2.2.2.2.2.1,B.2.2.2.2.2.2.2.2.2.2.2.1,B.2.2.2.2.2.2.2.2.2.2.2.2,B.2.2.2.2.2.2.2.2.2.2.1))
      else
       some (.done (.XT (z.1,z.2.1,z.2.2.1,z.2.2.2.1,z.2.2.2.2.1,z.2.2.2.2.2.1,z.2.2.2.2.2.2.1,z.2.2.2.2.2.2.2.1,z.2.2.2.2.2.2.2.2.1,z.2.2.2.2.2.2.2.2.2.1,z.2.2.2.2.2.2.2.2.2.2.1,z.2.2.2.2.2.2.2.2.2.2.2)))
      ) (A.2.1,A.2.2.1,A.2.2.2.1,A.2.2.2.2.1,A.2.2.2.2.2.1,A.2.2.2.2.2.2.1,A.2.2.2.2.2.2.2.1,A.2.2.2.2.2.2.2.2.1,A.2.2.2.2.2.2.2.2.2.1,A.2.2.2.2.2.2.2.2.2.2.1,A.2.2.2.2.2.2.2.2.2.2.2.1,A.2.2.2.2.2.2.2.2.2.2.2.2) fun (u:pI×Int×pP×Int×Int×Int×Int×qW×cX×Int×dP×mP)=>
     (bif (cm .eql u.2.2.2.2.1 h.2.2.1) then
      some true
     else
      some (cm .eql A.1 200)).bind fun H=>
      bif H then
       (dZ (0,aQ,0,0,0,([]:eG)) h.1 h.2.1 h.2.2.1 h.2.2.2.1 h.2.2.2.2.1 u.1 h.2.2.2.2.2.2.1 u.2.1 u.2.2.1 u.2.2.2.1 u.2.2.2.2.1 u.2.2.2.2.2.2.2.2.1 h.2.2.2.2.2.2.2.2.2.2.2.2.1 u.2.2.2.2.2.1 h.2.2.2.2.2.2.2.2.2.2.2.2.2.2.1 u.2.2.2.2.2.2.1 u.2.2.2.2.2.2.2.1 u.2.2.2.2.2.2.2.2.2.2.2 h.2.2.2.2.2.2.2.2.2.2.2.2.2.2.2.2.2.2.1 h.2.2.2.2.2.2.2.2.2.2.2.2.2.2.2.2.2.2.2.1 u.2.2.2.2.2.2.2.2.2.1 u.2.2.2.2.2.2.2.2.2.2.1).bind fun E=>
        some (.done (.ret (E.1,A.1,E.2)))
      else
       (dI h.1 h.2.1 h.2.2.1 h.2.2.2.1 h.2.2.2.2.1 u.1 h.2.2.2.2.2.2.1 u.2.1 u.2.2.1 u.2.2.2.1 u.2.2.2.2.1 u.2.2.2.2.2.2.2.2.1 h.2.2.2.2.2.2.2.2.2.2.2.2.1 u.2.2.2.2.2.1 h.2.2.2.2.2.2.2.2.2.2.2.2.2.2.1 u.2.2.2.2.2.2.1 u.2.2.2.2.2.2.2.1 u.2.2.2.2.2.2.2.2.2.2.2 h.2.2.2.2.2.2.2.2.2.2.2.2.2.2.2.2.2.2.1 h.2.2.2.2.2.2.2.2.2.2.2.2.2.2.2.2.2.2.2.1 u.2.2.2.2.2.2.2.2.2.1 u.2.2.2.2.2.2.2.2.2.2.1).bind fun C=>
        bif (Option.isSome C.1) then
         some (.done (.ret ((0,aQ,0,0,0,([]:eG)),0,C.1)))
        else
         some (.next ((ar .add .i64 A.1 1),u.1,u.2.1,C.2.1,C.2.2.1,u.2.2.2.2.1,u.2.2.2.2.2.1,u.2.2.2.2.2.2.1,u.2.2.2.2.2.2.2.1,C.2.2.2.1,u.2.2.2.2.2.2.2.2.2.1,u.2.2.2.2.2.2.2.2.2.2.1,C.2.2.2.2))
     ) (0,h.2.2.2.2.2.1,h.2.2.2.2.2.2.2.1,h.2.2.2.2.2.2.2.2.1,h.2.2.2.2.2.2.2.2.2.1,h.2.2.2.2.2.2.2.2.2.2.1,h.2.2.2.2.2.2.2.2.2.2.2.2.2.1,h.2.2.2.2.2.2.2.2.2.2.2.2.2.2.2.1,h.2.2.2.2.2.2.2.2.2.2.2.2.2.2.2.2.1,h.2.2.2.2.2.2.2.2.2.2.2.1,h.2.2.2.2.2.2.2.2.2.2.2.2.2.2.2.2.2.2.2.2.1,h.2.2.2.2.2.2.2.2.2.2.2.2.2.2.2.2.2.2.2.2.2,h.2.2.2.2.2.2.2.2.2.2.2.2.2.2.2.2.2.1) fun (_:Unit)=>
    none
def iD(A:Int)(z:pZ):Option (Bool):=
 (fQ A z).bind fun h=>
  (bif (cm .lss A 1) then
   some true
  else
   some (cm .gtr A 32)).bind fun G=>
   jp (fun (D:Int)=>
    bif (cm .neq D 0) then
     ((Nv h.2.2 D).bind fun H=>
      bif H then
       bif (cm .eql h.2.1 0) then
        bif (cm .eql h.1.2.2.1 0) then
         some (cm .eql (h.1.2.2.2.2.2.length:Int) 0)
        else
         some false
       else
        some false
      else
       some false).bind fun I=>
      some I
    else
     (kV A).bind fun K=>
      vF K (
       lp (β:=Unit) (fun (_:Unit)=>
        bif (cm .lss 0 (z.length:Int)) then
         none
        else
         some (.done (.XT ()))
        ) () fun (_:Unit)=>
       (bif (Option.isSome h.2.2) then
        some true
       else
        bif (cm .lss h.2.1 0) then
         some true
        else
         bif (cm .gtr h.2.1 3) then
          some true
         else
          bif (cm .neq h.1.1 0) then
           some true
          else
           some (!decide (h.1.2.1=aQ))).bind fun L=>
        bif L then
         some false
        else
         none
       ) fun E=>
       lp (β:=eG×(List eG)) (fun (u:Int×eG×(List eG))=>
        bif (cm .lss u.1 (z.length:Int)) then
         (Sw.idx z u.1).bind fun M=>
          (iU u.2.1 u.2.2 M).bind fun F=>
           some (.next ((ar .add .i64 u.1 1),F.2.2.1,F.2.2.2))
        else
         some (.done (.XT (u.2.1,u.2.2)))
        ) (0,E.1,E.2) fun (B:eG×(List eG))=>
       (bif (Option.isSome h.2.2) then
        some true
       else
        bif (cm .lss h.2.1 0) then
         some true
        else
         bif (cm .gtr h.2.1 3) then
          some true
         else
          bif (cm .neq h.1.1 0) then
           some true
          else
           some (!decide (h.1.2.1=aQ))).bind fun N=>
        bif N then
         some false
        else
         ((fK B).bind fun O=>
          bif (cm .eql h.1.2.2.1 O) then
           bif (cm .eql h.1.2.2.2.1 h.1.2.2.1) then
            bif (cm .eql h.1.2.2.2.2.1 h.1.2.2.1) then
             (fK B).bind fun P=>
              (Sw.idx B.2 P).bind fun Q=>
               (oQ h.1.2.2.2.2.2 Q).bind fun R=>
                some R
            else
             some false
           else
            some false
          else
           some false).bind fun S=>
          some S
    ) fun C=>
   bif G then
    C 1
   else
    bif (cm .gtr (z.length:Int) 300) then
     C 2
    else
     C 0
def oB(h:cX)(z A B:Int):Option (Bool):=
 bif (cm .gtr (h.length:Int) 256) then
  some true
 else
  (lX z 32).bind fun u=>
   (lX A 1000).bind fun C=>
    (lX B 120).bind fun D=>
     (lP h C D (ar .add .i64 1 u)).bind fun E=>
      (iD (ar .add .i64 1 u) E).bind fun F=>
       some F
def Dr(a0:(List aR))(a1:aR):Option (Int):=
 lp (β:=Unit) (fun (h:Int)=>
  bif (cm .lss h (a0.length:Int)) then
   (Sw.idx a0 h).bind fun u=>
    bif (decide (u=a1)) then
     some (.done (.ret h))
    else
     some (.next (ar .add .i64 h (1:Int)))
  else
   some (.done (.XT ()))
  ) (0:Int) fun (_:Unit)=>
 some (-1:Int)
end Go.Mo
namespace Go.Pl
open Go Go.Sw
def tC{A B D:Type}(g:Nat->A->B->Step B D)(fin:B->D):Nat->B->List A->D
 |_,acc,[]=>fin acc
 |i,acc,x::xs=>match g i x acc with
  | .next h=>tC g fin (i+1) h xs
  | .done d=>d
def Jh{α B D:Type}(st:Nat->B->α)(i:Nat):Step B D->Step α D
 | .next a=> .next (st i a)
 | .done d=> .done d
def out{β γ:Type}(k:β->Option γ):Ex β γ->Option γ
 | .XT y=>k y
 | .ret z=>some z
theorem Rf{α A B D:Type}{step:α->Option (Step α D)}{l:List A}(st:Nat->B->α)(g:Nat->A->B->Step B D)(fin:B->D)
  (hs:∀pre x rest acc,l=pre++x::rest->step (st pre.length acc)=some (Jh st (pre.length+1) (g pre.length x acc)))
  (he:∀acc,step (st l.length acc)=some (.done (fin acc))):
  ∀(rest pre:List A) (acc:B) (f:Nat),l=pre++rest->rest.length<f->loop step f (st pre.length acc)=some (tC g fin pre.length acc rest)
 | [],pre,acc,f,h,u=>by
  obtain⟨f,rfl⟩:∃f',f=f'+1:=⟨f - 1,by simp at u;omega⟩;have:=he acc;rw[h,cw] at this;simp[loop,this,tC]
 |x::rest,pre,acc,f,h,u=>by
  obtain⟨f,rfl⟩:∃f',f=f'+1:=⟨f - 1,by simp at u;omega⟩;have z:=hs pre x rest acc h;simp only[loop,z,tC];cases hg:g pre.length x acc with
  |done d=>rfl
  |next E=>
   have C:=Rf st g fin hs he rest (pre++[x]) E f (by rw[h];simp) (by simp at u;omega);simpa[Jh] using C
theorem Bs{α A B β γ:Type}{step:α->Option (Step α (Ex β γ))}{l:List A}{k:β->Option γ}(st:Nat->B->α)(j2:B)(g:Nat->A->B->Step B (Ex β γ))(fin:B->Ex β γ)(hf:l.length<fL)
  (hs:∀pre x rest acc,l=pre++x::rest->step (st pre.length acc)=some (Jh st (pre.length+1) (g pre.length x acc)))
  (he:∀acc,step (st l.length acc)=some (.done (fin acc))):
  lp step (st 0 j2) k=out k (tC g fin 0 j2 l):=by
 have h:=Rf st g fin hs he l [] j2 fL rfl hf;unfold lp;simp only[ak] at h;rw[h];cases tC g fin 0 j2 l<;>rfl
theorem nD{α:Type}(pre:List α)(x:α)(rest:List α):Sw.idx (pre++x::rest) (pre.length:Int)=some x:=by
 unfold Sw.idx;simp
theorem IP{n m:Nat}(h:n<m)(hm:m<=4611686018427387904):ar .add .i64 (n:Int) 1=((n+1:Nat):Int):=by
 unfold ar;simp only[IntKind.wrap,IntKind.signed,IntKind.bits];simp;omega
theorem pU{α:Type}(pre:List α)(x:α)(rest:List α):cm .lss (pre.length:Int) ((pre++x::rest).length:Int)=true:=by
 unfold cm;simp;omega
theorem dV{n:Nat}:cm .lss (n:Int) (n:Int)=false:=by unfold cm;simp
theorem Vp{α β γ:Type}{step:α->Option (Step α (Ex β γ))}{k:β->Option γ}(st:Nat->α)(n:Nat)(y:β)(hf:n<fL)(hs:∀i,i<n->step (st i)=some (.next (st (i+1))))(he:step (st n)=some (.done (.XT y))):lp step (st 0) k=k y:=by
 have h:∀m i,i+m=n->∀f,m<f->loop step f (st i)=some (.XT y):=by
  intro m
  induction m with
  |zero=>
   intro i u f hf;obtain⟨f,rfl⟩:∃f',f=f'+1:=⟨f - 1,by omega⟩;simp only[aDh] at u;subst u;simp[loop,he]
  |succ m z=>
   intro i u f hf;obtain⟨f,rfl⟩:∃f',f=f'+1:=⟨f - 1,by omega⟩;simp only[loop,hs i (by omega)];exact z (i+1) (by omega) f (by omega)
 unfold lp;rw[h n 0 (by omega) fL hf]
theorem wrap_i64{n:Int}(h: -9223372036854775808<=n/\n<=9223372036854775807):IntKind.wrap .i64 n=n:=Bh (k:= .i64) (by unfold Dh;simp[IntKind.min,IntKind.max,IntKind.signed,IntKind.bits];omega)
theorem Nw{n:Int}(h:0<=n/\n<=4294967295):IntKind.wrap .u32 n=n:=Bh (k:= .u32) (by unfold Dh;simp[IntKind.min,IntKind.max,IntKind.signed,IntKind.bits];omega)
theorem sF(w n:Nat):BitVec.ofInt w (n:Int)=BitVec.ofNat w n:=by
 apply BitVec.eq_of_toNat_eq;simp
theorem PW{a b:Nat}(ha:a<4294967296)(hb:b<4294967296):ar .xor .u32 (a:Int) (b:Int)=((a ^^^ b:Nat):Int):=by
 have h:a ^^^ b<2 ^ 32:=aCd (by simpa using ha) (by simpa using hb);show IntKind.wrap .u32 ((BitVec.ofInt 32 (a:Int) ^^^ BitVec.ofInt 32 (b:Int)).toNat:Int)=_;simp only[sF,aEu,aB8];rw[V8 (by simpa using ha),V8 (by simpa using hb)];exact Nw (by simp at h;omega)
theorem TH{a:Nat}(ha:a<4294967296):ar .and .u32 (a:Int) 1=((a % 2:Nat):Int):=by
 show IntKind.wrap .u32 ((BitVec.ofInt 32 (a:Int) &&& BitVec.ofInt 32 ((1:Nat):Int)).toNat:Int)=_;simp only[sF,aEv,aB8];rw[V8 (a:=a) (by simpa using ha),V8 (a:=1) (by decide),Nat.and_one_is_mod];exact Nw (by omega)
theorem TI{a:Nat}(ha:a<2):ar .mul .u32 3988292384 (a:Int)=((if a=1 then 3988292384 else 0:Nat):Int):=by
 have:a=0\/a=1:=by omega
 rcases this with rfl | rfl
 ·rfl
 ·decide
theorem VH{a:Nat}:sh .shr .u32 (a:Int) 1=((a / 2:Nat):Int):=by
 show Int.fdiv _ _=_;have:(2:Int) ^ min (1:Int).toNat (IntKind.bits .u32)=2:=by decide
 rw[this,ye _ (by omega)];omega
theorem TJ{a:Nat}(ha:a<4294967296):DL .u32 (a:Int)=((4294967295 - a:Nat):Int):=by
 unfold DL;show IntKind.wrap .u32 ((BitVec.allOnes 32 ^^^ BitVec.ofInt 32 (a:Int)).toNat:Int)=_;simp only[sF,BitVec.allOnes_xor,BitVec.toNat_not,aB8];rw[V8 (by simpa using ha)];exact Nw (by omega)
theorem IS(a b:Nat):Int.tdiv (a:Int) (b:Int)=((a / b:Nat):Int):=rfl
theorem IT{a b:Nat}(ha:a<=9223372036854775807):ar .quo .i64 (a:Int) (b:Int)=((a / b:Nat):Int):=by
 show IntKind.wrap .i64 _=_;rw[IS];have:=Nat.div_le_self a b;generalize a / b=q at*;exact wrap_i64 (by omega)
theorem BY{a b:Nat}:ar .rem .i64 (a:Int) (b:Int)=((a % b:Nat):Int):=rfl
theorem TK{a b:Nat}(h:a+b<=9223372036854775807):ar .add .i64 (a:Int) (b:Int)=((a+b:Nat):Int):=by
 show IntKind.wrap .i64 _=_;rw[<-Int.natCast_add];exact wrap_i64 (by omega)
theorem Ig{a b:Nat}(h:a*b<=9223372036854775807):ar .mul .i64 (a:Int) (b:Int)=((a*b:Nat):Int):=by
 show IntKind.wrap .i64 _=_;rw[<-Int.natCast_mul];exact wrap_i64 (by omega)
theorem IU{n:Int}(h:n≠0):nz n=some ():=by unfold nz;rw[XV h]
theorem QV{a b:Nat}:cm .lss (a:Int) (b:Int)=decide (a<b):=by unfold cm;simp
theorem NK(a b i:Nat):(a ^^^ b) / 2 ^ i % 2=(a / 2 ^ i+b / 2 ^ i) % 2:=by
 have h:=Nat.testBit_xor a b i;simp only[Nat.testBit_eq_decide_div_mod_eq] at h;have u:=aDr (a / 2 ^ i);have z:=aDr (b / 2 ^ i);have A:=aDr ((a ^^^ b) / 2 ^ i);rw[Nat.add_mod];rcases u with u | u<;>rcases z with z | z<;>rcases A with A | A<;>simp[u,z,A] at h ⊢
def Bytes(l:List Int):Prop:=∀x∈l,0<=x/\x<=255
def nat(l:List Int):List Nat:=l.map Int.toNat
theorem I0{α A B β γ:Type}{step:α->Option (Step α (Ex β γ))}{l:List A}{k:β->Option γ}(st:Nat->B->α)(I:Nat->B->Prop)(j2:B)(g:Nat->A->B->B)(fin:B->β)(hf:l.length<fL)(h0:I 0 j2)
  (hs:∀pre x rest acc,l=pre++x::rest->I pre.length acc->step (st pre.length acc)=some (.next (st (pre.length+1) (g pre.length x acc)))/\I (pre.length+1) (g pre.length x acc))
  (he:∀acc,I l.length acc->step (st l.length acc)=some (.done (.XT (fin acc)))):
  lp step (st 0 j2) k=k (fin ((l.zipIdx).foldl (fun acc x=>g x.2 x.1 acc) j2)):=by
 have C:∀(rest pre:List A) (acc:B) (f:Nat),l=pre++rest->I pre.length acc->rest.length<f->loop step f (st pre.length acc)=some (.XT (fin ((rest.zipIdx pre.length).foldl (fun acc x=>g x.2 x.1 acc) acc))):=by
  intro rest
  induction rest with
  |nil=>
   intro pre acc f u z hf;obtain⟨f,rfl⟩:∃f',f=f'+1:=⟨f - 1,by simp at hf;omega⟩;have:=he acc (by rw[u,cw];exact z);rw[u,cw] at this;simp[loop,this]
  |cons x rest F=>
   intro pre acc f u z hf;obtain⟨f,rfl⟩:∃f',f=f'+1:=⟨f - 1,by simp at hf;omega⟩;obtain⟨D,E⟩:=hs pre x rest acc u z;simp only[loop,D];have:=F (pre++[x]) (g pre.length x acc) f (by rw[u];simp) (by simpa using E) (by simp at hf;omega);simpa using this
 have h:=C l [] j2 fL rfl h0 hf;unfold lp;simp only[ak] at h;rw[h]
theorem WV{α:Type}(xs ys:List α)(h:xs.length+ys.length<=4294967296):Sw.app xs ys=some (xs++ys):=by unfold Sw.app;rw[YC h]
theorem m8{A:Type}(w:A->List Int):∀(l:List A) (i:Nat) (acc:List Int),(l.zipIdx i).foldl (fun acc x=>acc++w x.1) acc=acc++l.flatMap w
 | [],_,acc=>by simp
 |x::l,i,acc=>by simp[m8 w l]
def Wf{α:Type}(e:Wr α)(x:α):Prop:=∃S w cs,e.ok x S w cs
theorem Wf.int{k:aAg}{n:Int}(h:Wf (Wr.int k) n):Dh k n:=by obtain⟨_,_,_,h⟩:=h;exact h.2
theorem BZ{α:Type}{e:Wr α}{S w}:∀{xs:List α} {cs},e.j7 xs S w cs->∀x∈xs,Wf e x
 | [],_,_,x,h=>by simp at h
 |y::ys,_,⟨c,d,_,u,z⟩,x,h=>by
  rcases B1.1 h with rfl | h
  ·exact⟨_,_,_,u⟩
  ·exact BZ z x h
theorem Wf.sl{α:Type}{e:Wr α}{xs:List α}(h:Wf (Wr.sl e) xs):xs.length<=140737488355328/\∀x∈xs,Wf e x:=by
 obtain⟨_,_,_,a,C,_,z,A⟩:=h;refine⟨z.2,?_⟩;rcases A with rfl |⟨b,D,E,_,_,_,_,B⟩
 ·intro x u;simp at u
 ·exact BZ B
theorem Ff{α:Type}{e:Wr α}{x:α}{S w v}(h:e.val x S w v):Wf e x:=by obtain⟨u,h,_⟩:=h;exact⟨_,_,_,h⟩
theorem cl(m n:Int):cm .lss m n=decide (m<n):=rfl
theorem cg(m n:Int):cm .gtr m n=decide (m>n):=rfl
theorem cle(m n:Int):cm .leq m n=decide (m<=n):=rfl
theorem O6(m n:Int):cm .geq m n=decide (m>=n):=rfl
theorem ce(m n:Int):cm .eql m n=decide (m=n):=by show (m==n)=_;by_cases h:m=n<;>simp[h]
theorem cn(m n:Int):cm .neq m n=decide (m≠n):=by show (m != n)=_;by_cases h:m=n<;>simp[h]
theorem p5{m n:Int}(h: -9223372036854775808<=m+n/\m+n<=9223372036854775807):ar .add .i64 m n=m+n:=wrap_i64 h
theorem T5{m n:Int}(h: -9223372036854775808<=m - n/\m - n<=9223372036854775807):ar .sub .i64 m n=m - n:=wrap_i64 h
theorem C2{n:Nat}(h:n<=4611686018427387904):ar .add .i64 (n:Int) 1=((n+1:Nat):Int):=by rw[p5 (by omega)];push_cast;rfl
theorem QW{α A β γ:Type}{step:α->Option (Step α (Ex β γ))}{l:List A}{k:β->Option γ}(st:Nat->α)(wY:A->Bool)(z:γ)(y:β)(hf:l.length<fL)
  (hs:∀pre x rest,l=pre++x::rest->step (st pre.length)=some (if wY x then .done (.ret z) else .next (st (pre.length+1)))) (he:step (st l.length)=some (.done (.XT y))):
  lp step (st 0) k=if l.any wY then some z else k y:=by
 have B:∀(rest pre:List A) (f:Nat),l=pre++rest->rest.length<f->loop step f (st pre.length)=some (if rest.any wY then .ret z else .XT y):=by
  intro rest
  induction rest with
  |nil=>
   intro pre f u hf;obtain⟨f,rfl⟩:∃f',f=f'+1:=⟨f - 1,by simp at hf;omega⟩;rw[cw] at u;rw[<-u];simp[loop,he]
  |cons x rest C=>
   intro pre f u hf;obtain⟨f,rfl⟩:∃f',f=f'+1:=⟨f - 1,by simp at hf;omega⟩;simp only[loop,hs pre x rest u,List.any_cons];by_cases h:wY x=true
   ·simp[h]
   ·have:=C (pre++[x]) f (by rw[u];simp) (by simp at hf;omega);simp only[xk] at h;simp only[h,V6,r5,Bool.false_or];simpa using this
 have:=B l [] fL rfl hf;unfold lp;simp only[ak] at this;rw[this];by_cases h:l.any wY=true
 ·simp only[h,r7]
 ·simp only[xk] at h;simp only[h,V6,r5]
theorem Gu{A:Type}{l:List A}{n:Nat}(h:l.length<=n)(hn:n<=140737488355328):l.length<fL:=by unfold fL;omega
theorem kR{A:Type}{l pre rest:List A}{x:A}(h:l=pre++x::rest):cm .lss (pre.length:Int) (l.length:Int)=true:=by rw[h];exact pU pre x rest
theorem kF{A:Type}{l pre rest:List A}{x:A}(h:l=pre++x::rest):Sw.idx l (pre.length:Int)=some x:=by rw[h];exact nD pre x rest
theorem sG{A:Type}{l:List A}{i:Nat}{x:A}(h:l[i]? =some x):Sw.idx l (i:Int)=some x:=by unfold Sw.idx;simp[h]
theorem xD{A:Type}{l:List A}{n:Int}(h0:0<=n)(h1:n<l.length):∃x,Sw.idx l n=some x/\l[n.toNat]? =some x:=by
 have:n.toNat<l.length:=by omega
 exact⟨l[n.toNat],by unfold Sw.idx;simp[h0,this],by simp[this]⟩
theorem EH{A:Type}[DecidableEq A](l:List A)(hl:l.length<=1000000)(k:Unit->Option Bool):
  lp (β:=Unit) (fun (M9:Int)=>bif (cm .lss M9 (l.length:Int)) then (Sw.idx l M9).bind fun sj=>(Sw.idx l M9).bind fun gh=>bif (!decide (sj=gh)) then some (.done (.ret false)) else some (.next (ar .add .i64 M9 (1:Int))) else some (.done (.XT ()))) (0:Int) k=k ():=by
 rw[show (0:Int)=(fun (i:Nat)=>(i:Int)) 0 from rfl];rw[QW (l:=l) (fun (i:Nat)=>(i:Int)) (fun _=>false) false () (Gu hl (by decide))]
 ·simp
 ·intro u x z h;simp only[kR h,YX,kF h,cM];rw[C2 (by rw[h] at hl;simp at hl;omega)];simp
 ·simp only[dV,pF]
theorem Tf{n:Int}(h:Wf (Wr.int .i64) n): -9223372036854775808<=n/\n<=9223372036854775807:=by
 have:=h.int;unfold Dh at this;simpa[IntKind.min,IntKind.max,IntKind.signed,IntKind.bits] using this
theorem Tg{α A β γ:Type}{step:α->Option (Step α (Ex β γ))}{l:List A}{k:β->Option γ}(st:Nat->α)(wY:A->Bool)(z:Nat->γ)(y:β)(hf:l.length<fL)
  (hs:∀pre x rest,l=pre++x::rest->step (st pre.length)=some (if wY x then .done (.ret (z pre.length)) else .next (st (pre.length+1)))) (he:step (st l.length)=some (.done (.XT y))):
  lp step (st 0) k=match l.findIdx? wY with | some j=>some (z j) | none=>k y:=by
 have B:∀(rest pre:List A) (f:Nat),l=pre++rest->rest.length<f->loop step f (st pre.length)=some (match rest.findIdx? wY with | some j=> .ret (z (pre.length+j)) | none=> .XT y):=by
  intro rest
  induction rest with
  |nil=>
   intro pre f h hf;obtain⟨f,rfl⟩:∃f',f=f'+1:=⟨f - 1,by simp at hf;omega⟩;rw[cw] at h;rw[<-h];simp[loop,he]
  |cons x rest C=>
   intro pre f h hf;obtain⟨f,rfl⟩:∃f',f=f'+1:=⟨f - 1,by simp at hf;omega⟩;simp only[loop,hs pre x rest h,List.findIdx?_cons];by_cases u:wY x=true
   ·simp[u]
   ·have:=C (pre++[x]) f (by rw[h];simp) (by simp at hf;omega);simp only[xk] at u;simp only[u,V6,r5];rw[sM,aCw] at this;rw[this];cases rest.findIdx? wY with
    |none=>rfl
    |some j=>simp only[tw];congr 3;omega
 have:=B l [] fL rfl hf;unfold lp;simp only[ak,aC5] at this;rw[this];cases l.findIdx? wY<;>rfl
theorem Kx{A:Type}(l:List A)(wY:A->Bool):l.any wY=(l.findIdx? wY).isSome:=by
 simp
def yZ{A B D:Type}(g:B->A->Step B D)(fin:B->D):B->List A->D
 |acc,[]=>fin acc
 |acc,x::xs=>match g acc x with
  | .next h=>yZ g fin h xs
  | .done d=>d
theorem Ma{α A B β γ:Type}{step:α->Option (Step α (Ex β γ))}{l:List A}{k:β->Option γ}(st:Nat->B->α)(I:List A->B->Prop)(g:B->A->Step B (Ex β γ))(fin:B->Ex β γ)(j2:B)(hf:l.length<fL)(h0:I [] j2)
  (hs:∀pre x rest acc,l=pre++x::rest->I pre acc->step (st pre.length acc)=some (Jh st (pre.length+1) (g acc x))/\∀ZB,g acc x= .next ZB->I (pre++[x]) ZB)
  (he:∀acc,I l acc->step (st l.length acc)=some (.done (fin acc))):
  lp step (st 0 j2) k=out k (yZ g fin j2 l):=by
 have C:∀(rest pre:List A) (acc:B) (f:Nat),l=pre++rest->I pre acc->rest.length<f->loop step f (st pre.length acc)=some (yZ g fin acc rest):=by
  intro rest
  induction rest with
  |nil=>
   intro pre acc f u z hf;obtain⟨f,rfl⟩:∃f',f=f'+1:=⟨f - 1,by simp at hf;omega⟩;rw[cw] at u;subst u;simp[loop,he acc z,yZ]
  |cons x rest F=>
   intro pre acc f u z hf;obtain⟨f,rfl⟩:∃f',f=f'+1:=⟨f - 1,by simp at hf;omega⟩;obtain⟨D,E⟩:=hs pre x rest acc u z;simp only[loop,D,yZ];cases hg:g acc x with
   |done d=>rfl
   |next ZB=>
    have:=F (pre++[x]) ZB f (by rw[u];simp) (E ZB hg) (by simp at hf;omega);simpa[Jh] using this
 have h:=C l [] j2 fL rfl h0 hf;unfold lp;simp only[ak] at h;rw[h];cases yZ g fin j2 l<;>rfl
theorem IV{α A B β γ:Type}{step:α->Option (Step α (Ex β γ))}{l:List A}{k:β->Option γ}(st:Nat->B->α)(I:List A->B->Prop)(fin:B->β)(j2:B)(hf:l.length<fL)(h0:I [] j2)
  (hs:∀pre x rest acc,l=pre++x::rest->I pre acc->∃ZB,step (st pre.length acc)=some (.next (st (pre.length+1) ZB))/\I (pre++[x]) ZB)
  (he:∀acc,I l acc->step (st l.length acc)=some (.done (.XT (fin acc)))):∃acc,I l acc/\lp step (st 0 j2) k=k (fin acc):=by
 have D:∀(rest pre:List A) (acc:B) (f:Nat),l=pre++rest->I pre acc->rest.length<f->∃ZB,I l ZB/\loop step f (st pre.length acc)=some (.XT (fin ZB)):=by
  intro rest
  induction rest with
  |nil=>
   intro pre acc f h u hf;obtain⟨f,rfl⟩:∃f',f=f'+1:=⟨f - 1,by simp at hf;omega⟩;rw[cw] at h;subst h;exact⟨acc,u,by simp[loop,he acc u]⟩
  |cons x rest H=>
   intro pre acc f h u hf;obtain⟨f,rfl⟩:∃f',f=f'+1:=⟨f - 1,by simp at hf;omega⟩;obtain⟨ZB,C,z⟩:=hs pre x rest acc h u;obtain⟨E,F,G⟩:=H (pre++[x]) ZB f (by rw[h];simp) z (by simp at hf;omega);exact⟨E,F,by simp only[loop,C];simpa using G⟩
 obtain⟨acc,C,z⟩:=D l [] j2 fL rfl h0 hf;exact⟨acc,C,by unfold lp;simp only[ak] at z;rw[z]⟩
theorem Ds{α A B β γ:Type}{step:α->Option (Step α (Ex β γ))}{l:List A}{k:β->Option γ}{r:Option γ}(st:Nat->B->α)(I:List A->B->Prop)(fin:B->β)(j2:B)(hf:l.length<fL)(h0:I [] j2)
  (hs:∀pre x rest acc,l=pre++x::rest->I pre acc->∃ZB,step (st pre.length acc)=some (.next (st (pre.length+1) ZB))/\I (pre++[x]) ZB)
  (he:∀acc,I l acc->step (st l.length acc)=some (.done (.XT (fin acc)))) (hr:∀acc,I l acc->k (fin acc)=r):lp step (st 0 j2) k=r:=by
 obtain⟨acc,h,u⟩:=IV (k:=k) st I fin j2 hf h0 hs he;rw[u,hr acc h]
theorem NL{α β γ:Type}{step:α->Option (Step α (Ex β γ))}{k:β->Option γ}(I:α->Prop)(m:α->Nat)(R:β->Prop)(s0:α)(hm:m s0<fL)(h0:I s0)
  (hs:∀s,I s->(∃s',step s=some (.next s')/\I s'/\m s'<m s)\/∃y,step s=some (.done (.XT y))/\R y):∃y,R y/\lp step s0 k=k y:=by
 have A:∀(n:Nat) (s:α) (f:Nat),m s<=n->n<f->I s->∃y,R y/\loop step f s=some (.XT y):=by
  intro n
  induction n with
  |zero=>
   intro s f B C z;obtain⟨f,rfl⟩:∃f',f=f'+1:=⟨f - 1,by omega⟩;rcases hs s z with⟨s',h,u,F⟩|⟨y,h,u⟩
   ·omega
   ·exact⟨y,u,by simp[loop,h]⟩
  |succ n G=>
   intro s f B C z;obtain⟨f,rfl⟩:∃f',f=f'+1:=⟨f - 1,by omega⟩;rcases hs s z with⟨s',h,u,F⟩|⟨y,h,u⟩
   ·obtain⟨y,D,E⟩:=G s' f (by omega) (by omega) u;exact⟨y,D,by simp[loop,h,E]⟩
   ·exact⟨y,u,by simp[loop,h]⟩
 obtain⟨y,h,u⟩:=A (m s0) s0 fL (ZY _) hm h0;exact⟨y,h,by unfold lp;rw[u]⟩
theorem WG{i j:Nat}(h:i+j<=4611686018427387904):IntKind.wrap .i64 (sh .shr .u64 (IntKind.wrap .u64 (ar .add .i64 (i:Int) (j:Int))) (1:Int))=(((i+j) / 2:Nat):Int):=by
 rw[p5 (by omega)];have u:IntKind.wrap .u64 ((i:Int)+(j:Int))=(i:Int)+(j:Int):=Bh (k:= .u64) (by unfold Dh;simp[IntKind.min,IntKind.max,IntKind.signed,IntKind.bits];omega);rw[u];have z:sh .shr .u64 ((i:Int)+(j:Int)) 1=(((i+j) / 2:Nat):Int):=by
  show Int.fdiv _ _=_;have:(2:Int) ^ min (1:Int).toNat (IntKind.bits .u64)=2:=by decide
  rw[this,ye _ (by omega)];omega
 rw[z];exact wrap_i64 (by omega)
theorem PX(c:Bool){γ:Type}(x y:Option γ):(bif c then x else y)=if c=true then x else y:=by cases c<;>rfl
end Go.Pl
namespace Go.Pl
open Go Go.Sw Go.Mo
def I9(n:Int):Prop:= -9223372036854775808<=n/\n<=9223372036854775807
def pick(c n:Int):Int:=(if c<0 then -(c+1) else c).tmod n
theorem Mb{c n:Int}(hc:I9 c)(hn:0<n):lX c n=some (pick c n):=by
 unfold lX pick;have u:nz n=some ():=IU (by omega);simp only[jp,u,cM,cl];by_cases h:c<0
 ·simp only[h,fw,YX,r7];rw[p5 (by unfold I9 at hc;omega),wrap_i64 (by unfold I9 at hc;omega)];rw[show 0 - (c+1)= -(c+1) by omega];rfl
 ·simp only[h,H3,pF,r5];rfl
theorem Mc{c n:Int}(hn:0<n):0<=pick c n/\pick c n<n:=by
 unfold pick;have h:0<=(if c<0 then -(c+1) else c):=by split<;>omega
 exact⟨aEy _ h,Int.tmod_lt_of_pos _ hn⟩
def IW(l:List Int):Prop:=(∀x∈l,I9 x)/\l.length<=256
theorem Zb{l:List Int}(h:IW l)(i:Nat)(hi:i<=1000000):∃v:Nat,uA l (i:Int)=some (v:Int)/\v<=1000003+i*7919:=by
 unfold uA;rw[ce];by_cases u:(l.length:Int)=0
 ·refine⟨i*31,?_,by omega⟩;simp only[u,fw,YX];rw[show ar .mul .i64 (i:Int) 31=((i*31:Nat):Int) from Ig (b:=31) (by omega)]
 ·have A:0<l.length:=by omega
  have z:i % l.length<l.length:=pz _ A;simp only[u,H3,pF,IU u,cM];rw[BY,sG (J0 z),cM];rw[Mb (h.1 _ (il z)) (by omega),cM,IT (by omega)];have C:=Mc (c:=l[i % l.length]) (n:=1000003) (by omega);have B:i / l.length<=i:=Nat.div_le_self _ _;refine⟨(pick l[i % l.length] 1000003).toNat+i / l.length*7919,?_,?_⟩
  ·rw[show ar .mul .i64 ((i / l.length:Nat):Int) 7919=((i / l.length*7919:Nat):Int) from Ig (b:=7919) (by omega)];rw[p5 (by omega)];have e:pick l[i % l.length] 1000003=(((pick l[i % l.length] 1000003).toNat:Nat):Int):=(by omega);rw[e];congr 1
  ·have:i / l.length*7919<=i*7919:=xj _ B;omega
theorem EI(n:Int):0<=IntKind.wrap .u8 n/\IntKind.wrap .u8 n<=255:=by
 unfold IntKind.wrap;simp only[IntKind.signed,IntKind.bits];simp;omega
def l4(b:aR):Prop:=b.length=8/\Bytes b
theorem H8:l4 aQ:=⟨rfl,fun x h=>by unfold aQ at h;simp at h;omega⟩
theorem IX{b:aR}(h:l4 b)(i:Nat)(n:Int):l4 (List.set b i (IntKind.wrap .u8 n)):=by
 refine⟨by simpa using h.1,fun x u=>?_⟩;rcases aCz u with u | rfl
 ·exact h.2 x u
 ·exact EI n
theorem PY{α β γ:Type}{step:α->Option (Step α (Ex β γ))}{k:β->Option γ}{B:Type}(st:Nat->B->α)(fin:B->β)(n:Nat)(I:Nat->B->Prop)(b0:B)(hf:n<fL)(h0:I 0 b0)
  (hs:∀i b,i<n->I i b->∃b',step (st i b)=some (.next (st (i+1) b'))/\I (i+1) b') (he:∀b,I n b->step (st n b)=some (.done (.XT (fin b)))):
  ∃b,I n b/\lp step (st 0 b0) k=k (fin b):=by
 have A:∀(m i f:Nat) (b:B),i+m=n->m<f->I i b->∃b',I n b'/\loop step f (st i b)=some (.XT (fin b')):=by
  intro m
  induction m with
  |zero=>
   intro i f b C hf h;obtain⟨f,rfl⟩:∃f',f=f'+1:=⟨f - 1,by omega⟩;have:i=n:=(by omega);subst this;exact⟨b,h,by simp[loop,he b h]⟩
  |succ m G=>
   intro i f b C hf h;obtain⟨f,rfl⟩:∃f',f=f'+1:=⟨f - 1,by omega⟩;obtain⟨b',u,z⟩:=hs i b (by omega) h;obtain⟨D,E,F⟩:=G (i+1) f b' (by omega) (by omega) z;exact⟨D,E,by simp[loop,u,F]⟩
 obtain⟨b,u,z⟩:=A n 0 fL b0 (by omega) hf h0;exact⟨b,u,by unfold lp;rw[z]⟩
theorem Th{l:List Int}(h:IW l)(at_:Nat)(ha:at_<=100000):∃b,kU l (at_:Int)=some b/\l4 b:=by
 unfold kU;obtain⟨v,K,R⟩:=Zb h at_ (by omega)
 rw[K,cM,ce];by_cases B:ar .rem .i64 (v:Int) 3=0
 ·exact⟨aQ,by simp[B],H8⟩
 ·have E:Sw.idx aQ (0:Int)=some 0:=by unfold Sw.idx aQ;simp
  simp only[B,H3,pF,E,cM,jp];have C:l4 (List.set aQ (Int.toNat (0:Int)) (IntKind.wrap .u8 (ar .add .i64 (1:Int) (ar .rem .i64 (ar .quo .i64 (v:Int) (3:Int)) (5:Int))))):=IX H8 _ _;by_cases D:ar .rem .i64 (v:Int) 3=2
  ·rw[ce];simp only[D,fw,YX]
   obtain⟨b,L,M⟩:=PY (γ:=aR) (step:=fun (u:Int×aR)=>
     bif (cm .lss u.1 (8:Int)) then
      (uA l (ar .add .i64 (at_:Int) u.1)).bind fun H=>
       (Sw.idx u.2 u.1).bind fun _=>
        some (.next ((ar .add .i64 u.1 (1:Int)),(List.set u.2 (Int.toNat u.1) (IntKind.wrap .u8 (ar .quo .i64 H (7:Int))))))
     else
      some (.done (.XT u.2))) (k:=fun I=>some I) (fun (i:Nat) (b:aR)=>(((i+1:Nat):Int),b)) id 7 (fun _ b=>l4 b) (List.set aQ (Int.toNat (0:Int)) (IntKind.wrap .u8 (ar .add .i64 (1:Int) (ar .rem .i64 (ar .quo .i64 (v:Int) (3:Int)) (5:Int))))) (by decide) C
    (fun i b Q A=>by
     have z:((i+1:Nat):Int)<8:=(by omega);obtain⟨N,O,_⟩:=Zb h (at_+(i+1)) (by omega);obtain⟨y,P,_⟩:=xD (l:=b) (n:=((i+1:Nat):Int)) (by omega) (by have:=A.1;omega);have F:ar .add .i64 ((at_:Nat):Int) ((i+1:Nat):Int)=((at_+(i+1):Nat):Int):=TK (by omega);have G:ar .add .i64 ((i+1:Nat):Int) 1=((i+1+1:Nat):Int):=C2 (by omega);refine⟨_,?_,IX A (Int.toNat ((i+1:Nat):Int)) (ar .quo .i64 (N:Int) 7)⟩
     simp only[cl,z,fw,YX,F,O,P,G,cM])
    (fun b A=>by
     have z:¬((7+1:Nat):Int)<8:=by omega
     simp only[cl,z,H3,pF];rfl)
   exact⟨b,M,L⟩
  ·rw[ce];simp only[D,H3,pF];exact⟨_,rfl,C⟩
end Go.Pl
namespace Go.ZZ
open Go.Pl
open Go Go.Sw Go.Mo
abbrev mG:=List aR×List (Int×aR)×Int
def qE(n:Nat)(p:Int×aR):Bool:=decide (p.1<0) || decide (p.1>=n)
def nE(d:mG):Int:=if d.1.length<1\/d.1.length>200\/d.2.1.length>800 then 2 else if d.2.1.any (qE d.1.length) then 1 else 0
theorem Vq(x:Int×aR)(d:mG):lY x d=some (qE d.1.length x):=by
 unfold lY qE;simp only[cl,O6];by_cases h:x.1<0<;>simp[h]
theorem Px(l:List (Int×aR))(d:mG)(hl:l.length<=1000000):cJ l d=some (l.any (qE d.1.length)):=by
 unfold cJ dO;have h:=Tg (l:=l) (γ:=Int) (β:=Unit) (step:=fun (u:Int)=>bif (cm .lss u (l.length:Int)) then (Sw.idx l u).bind fun z=>(lY z d).bind fun A=>bif A then some (.done (.ret u)) else some (.next (ar .add .i64 u (1:Int))) else some (.done (.XT ()))) (k:=fun _=>some (-1:Int)) (fun (i:Nat)=>(i:Int)) (qE d.1.length) (fun i=>(i:Int)) () (Gu hl (by decide)) ?_ ?_
 ·have B:lp (β:=Unit) (fun (u:Int)=>bif (cm .lss u (l.length:Int)) then (Sw.idx l u).bind fun z=>(lY z d).bind fun A=>bif A then some (.done (.ret u)) else some (.next (ar .add .i64 u (1:Int))) else some (.done (.XT ()))) (0:Int) (fun _=>some (-1:Int))=_:=h;rw[B,Kx];cases hf:l.findIdx? (qE d.1.length) with
  |none=>simp[O6]
  |some j=>simp[O6]
 ·intro C x D h;simp only[kR h,YX,kF h,cM,Vq];by_cases c:qE d.1.length x=true
  ·simp[c]
  ·simp only[xk] at c;simp only[c,pF,V6,r5];rw[C2 (by rw[h] at hl;simp at hl;omega)]
 ·simp only[dV,pF]
theorem xE(d:mG):mY d=some (if nE d=0 then none else some (nE d)):=by
 unfold mY nE;simp only[cl,cg];by_cases z:d.1.length<1
 ·have:(d.1.length:Int)<1:=by omega
  simp[z,this]
 by_cases A:d.1.length>200
 ·have h:¬(d.1.length:Int)<1:=by omega
  have u:(d.1.length:Int)>200:=by omega
  simp[z,A,h,u]
 by_cases C:d.2.1.length>800
 ·have h:¬(d.1.length:Int)<1:=by omega
  have u:¬(d.1.length:Int)>200:=by omega
  have B:(d.2.1.length:Int)>800:=by omega
  simp[z,A,C,h,u,B]
 have h:¬(d.1.length:Int)<1:=by omega
 have u:¬(d.1.length:Int)>200:=by omega
 have B:¬(d.2.1.length:Int)>800:=by omega
 simp only[h,u,B,z,A,C,H3,pF,cM,aE1,r5];rw[Px _ _ (by omega)];by_cases c:d.2.1.any (qE d.1.length)=true<;>simp[c]
theorem X3(l:List aR)(hl:l.length<=1000000):oQ l l=some true:=by
 unfold oQ;rw[cn];simp only[ne_eq,aE0,H3,pF];exact EH l hl _
def NM(n:Int):Int:=if n>0 then ar .sub .i64 n 1 else n
theorem CA(s:List aR)(p:List (Int×aR))(n:Int):jN s p n=some (if n=0 then (some 4,s,p,n) else (none,s,p,NM n)):=by
 unfold jN jp NM;rw[ce,cg];by_cases h:n=0
 ·simp[h]
 ·by_cases q:n>0<;>simp[h,q]
theorem B2(d:mG)(h1:d.1.length<=1000)(h2:d.2.1.length<=1000):rY d=some (d.1,d.2.1,d.2.2):=by
 unfold rY aP bV;rw[WV _ _ (by simp;omega),WV _ _ (by simp;omega)];rfl
def Gc(a:Int)(l:List (Int×aR))(z:aR):aR:=(l.zipIdx).foldl (fun acc x=>if x.1.1=a then x.1.2 else acc) z
theorem Ag(a:Int)(z:aR)(l:List (Int×aR)):Gc a l z=l.foldl (fun acc p=>if p.1=a then p.2 else acc) z:=by
 unfold Gc;have:∀(l:List (Int×aR)) (i:Nat) (z:aR),(l.zipIdx i).foldl (fun acc x=>if x.1.1=a then x.1.2 else acc) z=l.foldl (fun acc p=>if p.1=a then p.2 else acc) z:=by
  intro l
  induction l with
  |nil=>intro i z;rfl
  |cons p l h=>intro i z;simp only[aCk,Z0];exact h _ _
 exact this l 0 z
def Gv(a:Int):List (Int×(Int×aR))->Option aR
 | []=>none
 |p::l=>if p.2.1=a then some p.2.2 else Gv a l
theorem Rg(a:Int):∀its:List (Int×(Int×aR)),er (δ:=aR) (fun (dt:(Int×(Int×aR))) (_:Unit)=>
  bif (cm .eql dt.2.1 a) then
   some (.done dt.2.2)
  else
   some (.next ())
  ) its ()=some (match Gv a its with | some b=> .ret b | none=> .XT ())
 | []=>rfl
 |p::l=>by
  simp only[er,Gv,ce];by_cases h:p.2.1=a
  ·simp[h]
  ·simp only[h,H3,pF,r5];have:=Rg a l;simp only[ce] at this;exact this
theorem Ky(a:Int)(z:aR):∀its:List (Int×(Int×aR)),(Gv a its).getD z=(its.map Prod.snd).foldr (fun p acc=>if p.1=a then p.2 else acc) z
 | []=>rfl
 |p::l=>by
  simp only[Gv,L4,List.foldr_cons,<-Ky a z l];by_cases h:p.2.1=a<;>simp[h]
theorem EJ{α:Type}(l:List α):(Sw.L3 l).map Prod.snd=l.reverse:=by
 unfold Sw.L3;rw[List.map_reverse,aEx];congr 1;have:∀(l:List α) (i:Nat),(l.zipIdx i).map (Prod.snd∘fun x:α×Nat=>((x.2:Int),x.1))=l:=by
  intro l
  induction l with
  |nil=>intro i;rfl
  |cons x l h=>intro i;simp only[aCk,L4,h];rfl
 exact this l 0
theorem Zc(a:Int)(z:aR)(l:List (Int×aR)):(Gv a (Sw.L3 l)).getD z=Gc a l z:=by
 rw[Ky,EJ,Ag,List.foldr_reverse]
theorem NN(d:mG)(a:Int)(hl:d.2.1.length<=1000):iW d a=some (if nE d=0 then (if a<0\/a>=d.1.length then (aQ,some 1) else if d.2.2=0 then (aQ,some 4) else (Gc a d.2.1 (d.1.getD a.toNat []),none)) else (aQ,some (nE d))):=by
 unfold iW;rw[xE,cM];by_cases e:nE d=0
 ·simp only[e,r7,p7,pF,cl,O6];by_cases h:a<0
  ·simp[h]
  by_cases u:a>=d.1.length
  ·simp[h,u]
  simp only[h,u,H3,pF,cM,aE1,r5];rw[ce d.2.2];by_cases z:d.2.2=0
  ·simp[z]
  have A:small d.2.1=some ():=by unfold small;rw[YC (by omega)]
  have B:a.toNat<d.1.length:=by omega
  have C:Sw.idx d.1 a=some (d.1.getD a.toNat []):=by unfold Sw.idx;rw[YC (by omega)];simp[V7,J0 B]
  have D:fV d.2.1=some d.2.1:=rfl;simp only[z,H3,pF,r5,D,cM,A,rg,Rg,C];rw[<-Zc];cases Gv a (Sw.L3 d.2.1)<;>rfl
 ·simp[e]
def zO(d:mG):List aR:=(d.2.1.zipIdx).foldl (fun acc x=>acc.set x.1.1.toNat x.1.2) d.1
theorem Zd(d:mG):(zO d).length=d.1.length:=by
 unfold zO;generalize d.2.1.zipIdx=z;generalize d.1=s
 induction z generalizing s with
 |nil=>rfl
 |cons x z h=>rw[Z0,h];simp
theorem TL{d:mG}(e:nE d=0):∀p∈d.2.1,0<=p.1/\p.1<d.1.length:=by
 unfold nE at e;split at e
 ·cases e
 ·split at e
  ·cases e
  ·rename_i A u;intro p z;have:qE d.1.length p=false:=by
    simp only[xk] at u;exact(aEq.1 u p z) |> fun h=>by simpa using h
   unfold qE at this;simp at this;omega
theorem Ze(d:mG)(e:nE d=0){p:Int×aR}(hp:p∈d.2.1){acc:List aR}(ha:acc.length=d.1.length):∃z,Sw.idx acc p.1=some z:=by
 have:=TL e p hp;have h:p.1.toNat<acc.length:=by omega
 exact⟨acc[p.1.toNat],by unfold Sw.idx;rw[YC this.1,J0 h]⟩
theorem IY(d:mG)(h1:d.1.length<=1000)(h2:d.2.1.length<=1000):sA d=some (if nE d=0 then (if d.2.2=0 then (([],[],0),some 4) else ((zO d,[],NM d.2.2),none)) else (([],[],0),some (nE d))):=by
 unfold sA;rw[xE,cM];by_cases e:nE d=0
 ·simp only[e,r7,p7,pF];rw[B2 d h1 h2,cM,CA,cM];by_cases u:d.2.2=0
  ·simp[u]
  simp only[u,r5,p7,pF];refine(I0 (l:=d.2.1) (fun i (acc:List aR)=>((i:Int),acc)) (fun _ acc=>acc.length=d.1.length) d.1 (fun _ p acc=>acc.set p.1.toNat p.2) id (Gu h2 (by decide)) rfl ?_ ?_).trans ?_
  ·intro B p E acc h A;have D:B.length<=1000:=(by rw[h] at h2;simp at h2;omega);obtain⟨z,C⟩:=Ze d e (p:=p) (by rw[h];simp) A;refine⟨?_,by simpa using A⟩;simp only[kR h,YX,kF h,cM,C];rw[C2 (by omega)]
  ·intro acc _;simp only[dV,pF];rfl
  ·rfl
 ·simp[e]
theorem IZ(d:mG)(a:Int)(b:aR)(h1:d.1.length<=1000)(h2:d.2.1.length<=1000):rZ d a b=some (if nE d=0 then (if a<0\/a>=d.1.length then (([],[],0),some 1) else if (d.2.1.length:Int)=800 then (([],[],0),some 2) else if d.2.2=0 then (([],[],0),some 4) else ((d.1,d.2.1++[(a,b)],NM d.2.2),none)) else (([],[],0),some (nE d))):=by
 unfold rZ;rw[xE,cM];by_cases e:nE d=0
 ·simp only[e,r7,p7,pF,cl,O6];by_cases h:a<0
  ·simp[h]
  by_cases u:a>=d.1.length
  ·simp[h,u]
  simp only[h,u,H3,pF,cM,aE1,r5];rw[ce];by_cases z:(d.2.1.length:Int)=800
  ·simp[z]
  simp only[z,H3,pF,r5];rw[B2 d h1 h2,cM,CA,cM];by_cases A:d.2.2=0
  ·simp[A]
  simp only[A,r5,p7,pF];rw[WV _ _ (by simp;omega),cM]
 ·simp[e]
def upd(f:Nat->aR)(a:Nat)(b:aR):Nat->aR:=fun x=>if x=a then b else f x
structure Vw (m:Nat) (d:mG) (f:Nat->aR) (k:Nat):Prop where
 len:d.1.length=m
 F9:1<=m/\m<=200
 left:d.2.2= -1
 xe:d.2.1.length<=k
 lim:k<=800
 er:∀p∈d.2.1,0<=p.1/\p.1<(m:Int)
 is:∀a,a<m->Gc (a:Int) d.2.1 (d.1.getD a [])=f a
variable {m k:Nat}{d:mG}{f:Nat->aR}
theorem Vw.err(h:Vw m d f k):nE d=0:=by
 unfold nE;have B:=h.len;have C:=h.F9;have D:=h.xe;have E:=h.lim;rw[XV (by omega),XV];intro z;obtain⟨p,A,u⟩:=aDe.1 z;have:=h.er p A;unfold qE at u;simp at u;omega
theorem Vw.read(h:Vw m d f k){a:Int}(h0:0<=a)(h1:a<m):iW d a=some (f a.toNat,none):=by
 have u:=h.xe;have z:=h.lim;have A:=h.len;rw[NN d a (by omega),YC h.err,XV (by omega),XV (by rw[h.left];decide)];have:=h.is a.toNat (by omega);rw[show ((a.toNat:Nat):Int)=a by omega] at this;rw[this]
theorem Zf(a x:Int)(b z:aR)(l:List (Int×aR)):Gc a (l++[(x,b)]) z=if x=a then b else Gc a l z:=by
 rw[Ag,Ag,aC6];rfl
theorem Vw.write(h:Vw m d f k){a:Int}{b:aR}(h0:0<=a)(h1:a<m)(hk:k<800):
  rZ d a b=some ((d.1,d.2.1++[(a,b)],-1),none)/\Vw m (d.1,d.2.1++[(a,b)],-1) (upd f a.toNat b) (k+1):=by
 have C:=h.xe;have D:=h.lim;have z:=h.len;have A:=h.F9;refine⟨?_,⟨z,A,rfl,by simp;omega,by omega,?_,?_⟩⟩
 ·rw[IZ d a b (by omega) (by omega),YC h.err,XV (by omega),XV (by omega),XV (by rw[h.left];decide),h.left];rfl
 ·intro p u;rcases S9.1 u with u | u
  ·exact h.er p u
  ·simp at u;subst u;exact⟨h0,h1⟩
 ·intro x B;show Gc (x:Int) (d.2.1++[(a,b)]) (d.1.getD x [])=_;rw[Zf];unfold upd;by_cases e:x=a.toNat
  ·rw[YC e,YC (by omega)]
  ·rw[XV e,XV (by omega),h.is x B]
theorem Ti(d:mG):zO d=d.2.1.foldl (fun acc p=>acc.set p.1.toNat p.2) d.1:=by
 unfold zO;have h:∀(l:List (Int×aR)) (n:Nat) (s:List aR),(l.zipIdx n).foldl (fun acc x=>acc.set x.1.1.toNat x.1.2) s=l.foldl (fun acc p=>acc.set p.1.toNat p.2) s:=by
  intro l
  induction l with
  |nil=>intro n s;rfl
  |cons p l u=>intro n s;rw[aCk,Z0,Z0,u]
 exact h _ _ _
theorem EK(a:Nat):∀(l:List (Int×aR)) (s:List aR),(∀p∈l,0<=p.1/\p.1<(s.length:Int))->(l.foldl (fun acc p=>acc.set p.1.toNat p.2) s).getD a []=l.foldl (fun acc p=>if p.1=(a:Int) then p.2 else acc) (s.getD a []):=by
 intro l
 induction l with
 |nil=>intro s _;rfl
 |cons p l A=>
  intro s h;have B:=h p dg;rw[Z0,Z0,A _ (fun q z=>by rw[aCs];exact h q (cz _ z))];congr 1;by_cases e:p.1=(a:Int)
  ·rw[YC e,e];have u:a<s.length:=(by omega);simp[V7,u]
  ·rw[XV e];have:¬p.1.toNat=a:=(by omega);simp[V7,this]
theorem Vw.flush(h:Vw m d f k):sA d=some ((zO d,[],-1),none)/\Vw m (zO d,[],-1) f 0:=by
 have C:=h.xe;have D:=h.lim;have z:=h.len;have A:=h.F9;refine⟨?_,⟨by show (zO d).length=m;rw[Zd,z],A,rfl,ZY _,by omega,fun p u=>by simp at u,?_⟩⟩
 ·rw[IY d (by omega) (by omega),YC h.err,XV (by rw[h.left];decide),h.left];rfl
 ·intro a B;show Gc (a:Int) [] ((zO d).getD a [])=f a;rw[Ag];show (zO d).getD a []=f a;rw[Ti,EK a _ _ (fun p u=>by rw[z];exact h.er p u),<-Ag,h.is a B]
theorem Vw.ax(h:Vw m d f k)(n:Int){a:Int}{b:aR}(h0:0<=a)(h1:a<m)(hk:k<800):
  ∃d',eF n d a b=some (none,n,d')/\Vw m d' (upd f a.toNat b) (k+1):=by
 obtain⟨e,v⟩:=h.write (b:=b) h0 h1 hk;refine⟨_,?_,v⟩;unfold eF;rw[e];rfl
theorem Vw.lx(h:Vw m d f k)(n:Int):∃d',eX n d=some (none,n,d')/\Vw m d' f 0:=by
 obtain⟨e,v⟩:=h.flush;refine⟨_,?_,v⟩;unfold eX;rw[e];rfl
end Go.ZZ
namespace Go.ZZ
open Go.Pl
open Go Go.Sw Go.Mo
abbrev NO:=Option Int×Int×mG
inductive qb {Q:Type} (F:Q->Int->mG->Option NO) (n:Int):List Q->mG->mG->Prop
 |nil {d:mG}:qb F n [] d d
 |cons {q:Q} {l:List Q} {d d1 d2:mG}:F q n d=some (none,n,d1)->qb F n l d1 d2->qb F n (q::l) d d2
theorem qb.append{Q:Type}{F:Q->Int->mG->Option NO}{n:Int}{l l':List Q}{d d1 d2:mG}(h:qb F n l d d1)(k:qb F n l' d1 d2):qb F n (l++l') d d2:=by
 induction h with
 |nil=>exact k
 |cons e _ u=>exact .cons e (u k)
theorem CB{Q:Type}{F:Q->Int->mG->Option NO}{n:Int}{xs:List Q}{d d2:mG}(h:qb F n xs d d2)(hl:xs.length<=100000):
  lp (β:=Int×mG) (fun (XY:Int×Int×mG)=>
  bif (cm .lss XY.1 (xs.length:Int)) then
   (Sw.idx xs XY.1).bind fun H5=>
    (F H5 XY.2.1 XY.2.2).bind fun v20=>
     bif (Option.isSome v20.1) then
      some (.done (.ret (v20.1,v20.2.1,v20.2.2)))
     else
      some (.next ((ar .add .i64 XY.1 (1:Int)),v20.2.1,v20.2.2))
  else
   some (.done (.XT (XY.2.1,XY.2.2)))
  ) ((0:Int),n,d) (fun (w8:Int×mG)=>some ((none:Option Int),w8.1,w8.2))=some (none,n,d2):=by
 generalize ZM:(fun (XY:Int×Int×mG)=>
  bif (cm .lss XY.1 (xs.length:Int)) then
   (Sw.idx xs XY.1).bind fun H5=>
    (F H5 XY.2.1 XY.2.2).bind fun v20=>
     bif (Option.isSome v20.1) then
      some (Step.done (Ex.ret (v20.1,v20.2.1,v20.2.2)))
     else
      some (Step.next ((ar .add .i64 XY.1 (1:Int)),v20.2.1,v20.2.2))
  else
   some (Step.done (Ex.XT (XY.2.1,XY.2.2))))=step
 have E:∀(A u:List Q) (d:mG) (f:Nat),xs=u++A->qb F n A d d2->A.length<f->loop step f ((u.length:Int),n,d)=some (.XT (n,d2)):=by
  intro A
  induction A with
  |nil=>
   intro u d f z B C;obtain⟨f,rfl⟩:∃f',f=f'+1:=⟨f - 1,by simp at C;omega⟩;rw[cw] at z;cases B;have:step ((u.length:Int),n,d2)=some (.done (.XT (n,d2))):=(by rw[<-ZM,z];simp only[dV,pF]);simp[loop,this]
  |cons q A H=>
   intro u d f z B C;obtain⟨f,rfl⟩:∃f',f=f'+1:=⟨f - 1,by simp at C;omega⟩;cases B with
   |cons e B=>
    rename_i D;have:step ((u.length:Int),n,d)=some (.next (((u.length+1:Nat):Int),n,D)):=by
     rw[<-ZM];simp only[kR z,YX,kF z,cM,e,p7,pF];rw[C2 (by rw[z] at hl;simp at hl;omega)]
    have G:=H (u++[q]) D f (by rw[z];simp) B (by simp at C;omega);simp only[loop,this];simpa using G
 have:=E xs [] d fL rfl h (by unfold fL;omega);unfold lp;simp only[ak] at this;rw[show ((0:Int),n,d)=(((0:Nat):Int),n,d) from rfl,this]
variable {m k:Nat}{d:mG}{f:Nat->aR}
def SR(b:Int):aR:=[b]++List.replicate 7 (0:Int)
theorem Vw.aGq(h:Vw m d f k){n:Nat}(hn:n+1<m)(b:Int)(hk:k<800):
  ∃d',fZ (n:Int) d b=some (none,(n:Int),d')/\Vw m d' (upd f (n+1) (SR b)) 0:=by
 have D:=h.F9;obtain⟨d1,u,B⟩:=h.ax (n:Int) (a:=((n+1:Nat):Int)) (b:=SR b) (by omega) (by omega) hk;obtain⟨d2,C,z⟩:=B.lx (n:Int);rw[show (((n+1:Nat):Int)).toNat=n+1 from rfl] at z;refine⟨d2,?_,z⟩;have A:qb lJ (n:Int) ([(.inl ((),((),b)):dM),(.inr ((),()):dM)]:(List dM)) d d2:=by
  refine .cons (d1:=d1) ?_ (.cons C .nil);show iX b (n:Int) d=_;unfold iX;rw[C2 (by omega)];unfold SR at u;rw[u];rfl
 unfold fZ gL;rw[CB A (by simp)];rfl
end Go.ZZ
namespace Go.ZZ
open Go.Pl
open Go Go.Sw Go.Mo
theorem CC(n:Nat):IntKind.wrap .u8 (n:Int)=((n % 256:Nat):Int):=by
 show (Int.emod (n:Int) _)=_;rfl
theorem EL(n c:Nat)(hc:c<=64):sh .shr .i64 (n:Int) (c:Int)=((n / 2 ^ c:Nat):Int):=by
 show Int.fdiv (n:Int) (2 ^ min ((c:Nat):Int).toNat 64)=_;rw[A5,tx hc,ye _ (aEe (aEz (by decide)))];push_cast;rfl
theorem EM{n c:Nat}(hn:n<256)(hc:c<=24):sh .shl .i64 (n:Int) (c:Int)=((n*2 ^ c:Nat):Int):=by
 show IntKind.wrap .i64 ((n:Int)*2 ^ min ((c:Nat):Int).toNat 64)=_;rw[A5,tx (by omega)];have h:2 ^ c<=2 ^ 24:=aEb (by decide) hc;have u:n*2 ^ c<=255*2 ^ 24:=aCu (by omega) h;have e:(n:Int)*2 ^ c=((n*2 ^ c:Nat):Int):=by push_cast;rfl
 rw[e,wrap_i64 (by omega)]
theorem orI{a b:Nat}(ha:a<4611686018427387904)(hb:b<4611686018427387904):ar .or .i64 (a:Int) (b:Int)=((a ||| b:Nat):Int):=by
 have h:a ||| b<2 ^ 62:=aD3 (by simpa using ha) (by simpa using hb)
 show IntKind.wrap .i64 ((BitVec.ofInt 64 (a:Int) ||| BitVec.ofInt 64 (b:Int)).toNat:Int)=_;simp only[sF,BitVec.toNat_or,aB8];rw[V8 (a:=a) (by omega),V8 (a:=b) (by omega)];exact wrap_i64 (by omega)
theorem orP{x y c:Nat}(hy:y<2 ^ c):x*2 ^ c ||| y=x*2 ^ c+y:=by
 have:=aEc hy x;rw[Nat.shiftLeft_eq] at this;exact this.symm
def kZ(v:Nat):List Int:=[((v / 16777216 % 256:Nat):Int),((v / 65536 % 256:Nat):Int),((v / 256 % 256:Nat):Int),((v % 256:Nat):Int)]
theorem A1(v:Nat):kK (v:Int)=some (kZ v++List.replicate 4 (0:Int)):=by
 unfold kK kZ;have h:=EL v 24 (by decide);have u:=EL v 16 (by decide);have z:=EL v 8 (by decide);rw[show ((24:Nat):Int)=24 from rfl] at h;rw[show ((16:Nat):Int)=16 from rfl] at u;rw[show ((8:Nat):Int)=8 from rfl] at z;rw[h,u,z,CC,CC,CC,CC]
theorem JB{b3 b2 b1 b0:Nat}(h3:b3<256)(h2:b2<256)(h1:b1<256)(h0:b0<256)(r:List Int):
  gR ((b3:Int)::(b2:Int)::(b1:Int)::(b0:Int)::r)=some ((b3*16777216+b2*65536+b1*256+b0:Nat):Int):=by
 have A:Sw.idx ((b3:Int)::(b2:Int)::(b1:Int)::(b0:Int)::r) (0:Int)=some (b3:Int):=rfl;have B:Sw.idx ((b3:Int)::(b2:Int)::(b1:Int)::(b0:Int)::r) (1:Int)=some (b2:Int):=rfl;have C:Sw.idx ((b3:Int)::(b2:Int)::(b1:Int)::(b0:Int)::r) (2:Int)=some (b1:Int):=rfl;have D:Sw.idx ((b3:Int)::(b2:Int)::(b1:Int)::(b0:Int)::r) (3:Int)=some (b0:Int):=rfl;unfold gR;simp only[A,B,C,D,cM];have h:=EM h3 (show 24<=24 by decide);have u:=EM h2 (show 16<=24 by decide);have z:=EM h1 (show 8<=24 by decide);rw[show ((24:Nat):Int)=24 from rfl] at h;rw[show ((16:Nat):Int)=16 from rfl] at u;rw[show ((8:Nat):Int)=8 from rfl] at z;rw[h,u,z,orI (by omega) (by omega)];rw[orP (x:=b3) (c:=24) (y:=b2*2 ^ 16) (by omega),orI (by omega) (by omega)];rw[show b3*2 ^ 24+b2*2 ^ 16=(b3*256+b2)*2 ^ 16 by omega,orP (c:=16) (y:=b1*2 ^ 8) (by omega),orI (by omega) (by omega)];rw[show (b3*256+b2)*2 ^ 16+b1*2 ^ 8=((b3*256+b2)*256+b1)*2 ^ 8 by omega,orP (c:=8) (y:=b0) (by omega)]
 try (congr 2;omega)
theorem Fg{v:Nat}(h:v<=2147483647)(r:List Int):gR (kZ v++r)=some (v:Int):=by
 show gR (((v / 16777216 % 256:Nat):Int)::((v / 65536 % 256:Nat):Int)::((v / 256 % 256:Nat):Int)::((v % 256:Nat):Int)::r)=_;rw[JB (by omega) (by omega) (by omega) (by omega)];congr 2;omega
theorem Zg{α A B β γ:Type}{step:α->Option (Step α (Ex β γ))}{l:List A}{k:β->Option γ}(st:Nat->B->α)(I:List A->B->Prop)(fin:B->β)(j2:B)(hf:l.length<fL)(h0:I [] j2)
  (hs:∀pre x rest acc,l=pre++x::rest->I pre acc->∃ZB,step (st pre.length acc)=some (.next (st (pre.length+1) ZB))/\I (pre++[x]) ZB)
  (he:∀acc,I l acc->step (st l.length acc)=some (.done (.XT (fin acc)))):∃acc,lp step (st 0 j2) k=k (fin acc)/\I l acc:=by
 obtain⟨a,h,u⟩:=IV (k:=k) st I fin j2 hf h0 hs he;exact⟨a,u,h⟩
abbrev QX:=List (Nat×aR)
def Jt(f:Nat->aR)(l:QX):Nat->aR:=l.foldl (fun f p=>upd f p.1 p.2) f
theorem Ju(f:Nat->aR)(l:QX)(p:Nat×aR):Jt f (l++[p])=upd (Jt f l) p.1 p.2:=by unfold Jt;rw[aC6];rfl
theorem Vr(f:Nat->aR){n:Nat}(l:QX)(h:∀p∈l,p.1<=n){a:Nat}(ha:n<a):Jt f l a=f a:=by
 unfold Jt
 induction l generalizing f with
 |nil=>rfl
 |cons p l z=>
  rw[Z0,z _ (fun q u=>h q (cz _ u))];have:=h p dg;unfold upd;rw[XV (by omega)]
variable {m k n:Nat}{d:mG}{f:Nat->aR}
structure Laid (n:Nat) (f:Nat->aR) (l:QX):Prop where
 cnt:∃r,f (n+2)=kZ l.length++r
 put:∀i p,l[i]? =some p->(∃r,f (n+3+2*i)=kZ p.1++r)/\f (n+4+2*i)=p.2
theorem Vw.aIo(h:Vw m d f k){l:QX}(hl:Laid n f l)(hm:m=3*n+5)(hn:l.length<=n+1)(hp:∀p∈l,p.1<=n)(hk:k+l.length<=800):
  ∃d',gU (n:Int) d=some (none,(n:Int),d')/\Vw m d' (Jt f l) (k+l.length):=by
 have R:=h.F9;unfold gU;have F:ar .add .i64 (n:Int) (2:Int)=((n+2:Nat):Int):=by rw[p5 (by omega)];push_cast;rfl
 rw[F,h.read (by omega) (by omega),cM,A5];obtain⟨M,N⟩:=hl.cnt;have ev:gR (f (n+2))=some (l.length:Int):=by rw[N];exact Fg (by omega) M
 refine Zg (l:=l) (fun i d=>((none:Option Int),(i:Int),(n:Int),d)) (fun u d=>Vw m d (Jt f u) (k+u.length)) (fun d=>((none:Option Int),(n:Int),d)) d (Gu (n:=1000) (by omega) (by decide)) h ?_ ?_
 ·intro u p U d z A;have S:u.length<l.length:=by rw[z];simp
  have G:l[u.length]? =some p:=by rw[z];simp
  obtain⟨⟨r,O⟩,P⟩:=hl.put _ _ G;have B:∀q∈u,q.1<=n:=fun q L=>hp q (by rw[z];exact aDp _ L);have T:p.1<=n:=hp p (by rw[z];simp);have H:ar .add .i64 (ar .add .i64 (n:Int) (3:Int)) (ar .mul .i64 (2:Int) (u.length:Int))=((n+3+2*u.length:Nat):Int):=by
   rw[show (2:Int)=((2:Nat):Int) from rfl,Ig (by omega),p5 (m:=(n:Int)) (by omega),p5 (by push_cast;omega)];push_cast;rfl
  have I:ar .add .i64 (ar .add .i64 (n:Int) (4:Int)) (ar .mul .i64 (2:Int) (u.length:Int))=((n+4+2*u.length:Nat):Int):=by
   rw[show (2:Int)=((2:Nat):Int) from rfl,Ig (by omega),p5 (m:=(n:Int)) (by omega),p5 (by push_cast;omega)];push_cast;rfl
  have C:=A.read (a:=((n+3+2*u.length:Nat):Int)) (by omega) (by omega);have D:=A.read (a:=((n+4+2*u.length:Nat):Int)) (by omega) (by omega);rw[A5,Vr f u B (by omega),O] at C;rw[A5,Vr f u B (by omega),P] at D;have K:gR (kZ p.1++r)=some (p.1:Int):=Fg (by omega) r;obtain⟨d',Q,E⟩:=A.ax (n:Int) (a:=(p.1:Int)) (b:=p.2) (by omega) (by omega) (by omega);refine⟨d',?_,?_⟩
  ·simp only[kr,YX,ev,cM,kR z,H,I,C,D,jp,K,Q];rw[C2 (by omega)]
  ·rw[Ju,sM,aCw];rw[A5] at E;exact E
 ·intro d A;simp only[kr,YX,ev,cM,dV,pF]
end Go.ZZ
namespace Go.ZZ
open Go.Pl
open Go Go.Sw Go.Mo
variable {m k n:Nat}{d:mG}{f:Nat->aR}
theorem Zh(x:Int×aR)(d:mG):jH x (some ((n:Int),d))=some (qE n x):=by
 unfold jH qE;rw[cl];by_cases h:x.1<0
 ·simp[h]
 ·simp[h,O6]
theorem Tj(l:List (Int×aR))(d:mG)(hl:l.length<=1000000):bZ l (some ((n:Int),d))=some (l.any (qE n)):=by
 unfold bZ cS;rw[show (0:Int)=(fun (i:Nat)=>(i:Int)) 0 from rfl];rw[Tg (l:=l) (fun (i:Nat)=>(i:Int)) (qE n) (fun i=>(i:Int)) () (Gu hl (by decide))]
 ·rw[Kx];cases h:l.findIdx? (qE n) with
  |none=>simp[O6]
  |some j=>simp[O6]
 ·intro u x z h;simp only[kR h,YX,kF h,cM,Zh];rw[C2 (by rw[h] at hl;simp at hl;omega)];cases qE n x<;>rfl
 ·simp only[dV,pF]
abbrev Nx:=List (Int×aR)
def WA(i:Nat)(p:Int×aR):aG:= .inr (.inl ((),((),((i:Int),p))))
def WB(i:Nat)(p:Int×aR):aG:= .inr (.inr (.inl ((),((),((i:Int),p)))))
def Bt:Nat->Nx->List aG
 |_,[]=>[]
 |i,p::l=>WA i p::WB i p::Bt (i+1) l
theorem Vs(p:Int×aR):∀(l:Nx) (i:Nat),Bt i (l++[p])=Bt i l++[WA (i+l.length) p,WB (i+l.length) p]:=by
 intro l
 induction l with
 |nil=>intro i;rfl
 |cons q l h=>intro i;simp only[fy,Bt,h,H6];rw[show i+1+l.length=i+(l.length+1) by omega]
theorem Gw:∀(l:Nx) (i:Nat),(Bt i l).length=2*l.length:=by
 intro l
 induction l with
 |nil=>intro i;rfl
 |cons q l h=>intro i;simp only[Bt,H6,h];omega
theorem NP(hm:m=3*n+5)(hn:n<=32):∀(rest:Nx) (i:Nat) (d:mG) (g:Nat->aR) (k:Nat),Vw m d g k->(∀p∈rest,0<=p.1/\p.1<=n)->i+rest.length<=n+1->k+2*rest.length<=800->
  ∃d' g',qb iM (n:Int) (Bt i rest) d d'/\Vw m d' g' (k+2*rest.length)/\(∀x,x<n+3+2*i->g' x=g x)/\
   ∀j p,rest[j]? =some p->(∃r,g' (n+3+2*(i+j))=kZ p.1.toNat++r)/\g' (n+4+2*(i+j))=p.2:=by
 intro rest
 induction rest with
 |nil=>intro i d g k h _ _ _;exact⟨d,g,.nil,h,fun _ _=>rfl,fun j p u=>by simp at u⟩
 |cons p rest R=>
  intro i d g k h C I K;have S:=C p dg;simp only[H6] at I K;obtain⟨d1,M,D⟩:=h.ax (n:Int) (a:=((n+3+2*i:Nat):Int)) (b:=kZ p.1.toNat++List.replicate 4 (0:Int)) (by omega) (by omega) (by omega);obtain⟨E,N,z⟩:=D.ax (n:Int) (a:=((n+4+2*i:Nat):Int)) (b:=p.2) (by omega) (by omega) (by omega);rw[A5] at D z;rw[A5] at z;obtain⟨d',g',O,P,A,Q⟩:=R (i+1) E _ _ z (fun q L=>C q (cz _ L)) (by omega) (by omega);have F:ar .add .i64 (ar .add .i64 (n:Int) (3:Int)) (ar .mul .i64 (2:Int) (i:Int))=((n+3+2*i:Nat):Int):=by
   rw[show (2:Int)=((2:Nat):Int) from rfl,Ig (by omega),p5 (m:=(n:Int)) (by omega),p5 (by push_cast;omega)];push_cast;rfl
  have G:ar .add .i64 (ar .add .i64 (n:Int) (4:Int)) (ar .mul .i64 (2:Int) (i:Int))=((n+4+2*i:Nat):Int):=by
   rw[show (2:Int)=((2:Nat):Int) from rfl,Ig (by omega),p5 (m:=(n:Int)) (by omega),p5 (by push_cast;omega)];push_cast;rfl
  refine⟨d',g',.cons (d1:=d1) ?_ (.cons (d1:=E) ?_ O),by rw[show k+2*(p::rest).length=k+1+1+2*rest.length by simp;omega];exact P,?_,?_⟩
  ·show gY (i:Int) p (n:Int) d=_;unfold gY;have H:p.1=((p.1.toNat:Nat):Int):=(by omega);have B:=A1 p.1.toNat;rw[<-H] at B;rw[B,cM,F,M];rfl
  ·show gZ (i:Int) p (n:Int) d1=_;unfold gZ;rw[G,N];rfl
  ·intro x T;rw[A x (by omega)];unfold upd;rw[XV (by omega),XV (by omega)]
  ·intro j q u;cases j with
   |zero=>
    simp at u;subst u;rw[show i+0=i from rfl,A _ (by omega),A _ (by omega)];unfold upd;rw[XV (by omega),YC rfl,YC rfl];exact⟨⟨_,rfl⟩,rfl⟩
   |succ j=>
    simp at u;have:=Q j q u;rw[show i+(j+1)=i+1+j by omega];exact this
end Go.ZZ
namespace Go.ZZ
open Go.Pl
open Go Go.Sw Go.Mo
variable {m k n:Nat}{d:mG}{f:Nat->aR}
theorem NQ{f g:Nat->aR}{x:Nat}(l:QX)(h:f x=g x):Jt f l x=Jt g l x:=by
 unfold Jt
 induction l generalizing f g with
 |nil=>exact h
 |cons p l u=>
  rw[Z0,Z0];apply u;unfold upd;rw[h]
def Dt(l:Nx):QX:=l.map (fun p=>(p.1.toNat,p.2))
theorem Ih(v:Nat):(kZ v).length=4:=rfl
theorem EN(h:Vw m d f 0)(hm:m=3*n+5)(ln:1<=n)(hn:n<=32)(ZJ:Nx){a b:Nat}(hl:ZJ.length<=n)(hp:∀p∈ZJ,0<=p.1/\p.1<n)(ha:a<=2147483647)(hb:b<=2147483647):
  ∃d' f',dA (n:Int) d ZJ (a:Int) (b:Int)=some (none,(n:Int),d')/\Vw m d' f' 0/\(∀x,x<=n->f' x=Jt f (Dt (ZJ++[((n:Int),kZ a++kZ b)])) x)/\f' (n+1)=SR 0:=by
 have L:ZJ.any (qE n)=false:=by
  rw[aEq];intro p u;have:=hp p u;unfold qE;simp;omega
 generalize hv:ZJ++[((n:Int),kZ a++kZ b)]=q7;have F:q7.length=ZJ.length+1:=by rw[<-hv];simp
 have G:∀p∈q7,0<=p.1/\p.1<=n:=by
  intro p u;rw[<-hv] at u;rcases S9.1 u with u | u
  ·have:=hp p u;omega
  ·simp at u;subst u;exact⟨by simp,by simp⟩
 have M:ar .add .i64 (n:Int) (2:Int)=((n+2:Nat):Int):=by rw[p5 (by omega)];push_cast;rfl
 obtain⟨d1,s1,I⟩:=h.ax (n:Int) (a:=((n+2:Nat):Int)) (b:=kZ q7.length++List.replicate 4 (0:Int)) (by omega) (by omega) (by omega);rw[A5] at I;obtain⟨d2,g2,r2,w2,K,ab⟩:=NP hm hn q7 0 d1 _ _ I G (by omega) (by omega);obtain⟨d3,s3,v3⟩:=w2.lx (n:Int);obtain⟨d4,s4,v4⟩:=v3.aGq (n:=n) (by omega) 1 (by omega);have B:(Dt q7).length=q7.length:=by unfold Dt;simp
 have N:Laid n (upd g2 (n+1) (SR 1)) (Dt q7):=by
  constructor
  ·refine⟨List.replicate 4 (0:Int),?_⟩;unfold upd;rw[XV (by omega),K _ (by omega)];unfold upd;rw[YC rfl,B]
  ·intro i p A;unfold Dt at A;rw[oe] at A;cases u:q7[i]? with
   |none=>rw[u] at A;cases A
   |some q=>
    rw[u] at A;obtain rfl:=pT A;have:=ab i q u;rw[aC5] at this;unfold upd;rw[XV (by omega),XV (by omega)];exact this
 have O:∀p∈Dt q7,p.1<=n:=by
  intro p u;unfold Dt at u;obtain⟨q,ac,rfl⟩:=fx.1 u;have:=G q ac;show q.1.toNat<=n;omega
 obtain⟨d5,s5,v5⟩:=v4.aIo N hm (by rw[B];omega) O (by rw[B];omega);obtain⟨d6,s6,v6⟩:=v5.lx (n:Int);obtain⟨d7,s7,v7⟩:=v6.aGq (n:=n) (by omega) 0 (by omega);refine⟨d7,_,?_,v7,?_,by unfold upd;rw[YC rfl]⟩
 ·unfold dA;rw[cg,cl,cg];rw[n9 (show¬((ZJ.length:Int)>n) by omega),pF];rw[n9 (show¬(min (a:Int) (b:Int)<0) by omega),pF];rw[n9 (show¬(max (a:Int) (b:Int)>2147483647) by omega),pF];rw[Tj ZJ d (by omega),L,cM,cM,pF,A1,A1,cM,cM];have P:bV ZJ=some ZJ:=by unfold bV;rw[WV _ _ (by simp;omega)];rfl
  have Q:Sw.aw (kZ a++List.replicate 4 (0:Int)) (0:Int) (4:Int) (4:Int)=some (kZ a):=by unfold Sw.aw Sw.sub kZ;simp
  have R:Sw.sub (kZ b++List.replicate 4 (0:Int)) (0:Int) (4:Int)=some (kZ b):=by unfold Sw.sub kZ;simp
  have S:Sw.app (kZ a) (kZ b)=some (kZ a++kZ b):=WV _ _ (by rw[Ih,Ih];decide);have T:Sw.C7 8 (kZ a++kZ b)=some (kZ a++kZ b):=by unfold Sw.C7 kZ;simp
  have U:Sw.app ZJ [((n:Int),kZ a++kZ b)]=some q7:=by rw[WV _ _ (by simp;omega),hv]
  simp only[P,Q,R,S,T,U,cM];have V:qb iM (n:Int) (((.inl ((),((),q7)):aG)::Bt 0 q7)++([(.inr (.inr (.inr (.inl ((),())))):aG),(.inr (.inr (.inr (.inr (.inl ((),()))))):aG),(.inr (.inr (.inr (.inr (.inr (.inl ((),())))))):aG),(.inr (.inr (.inr (.inr (.inr (.inr (.inl ((),()))))))):aG),(.inr (.inr (.inr (.inr (.inr (.inr (.inr ((),()))))))):aG)]:(List aG))) d d7:=by
   refine qb.append (d1:=d2) (.cons (d1:=d1) ?_ r2) (.cons s3 (.cons (d1:=d4) ?_ (.cons s5 (.cons s6 (.cons (d1:=d7) ?_ .nil)))))
   ·show gX q7 (n:Int) d=_;unfold gX;rw[A1,cM,M,s1];rfl
   ·show hC (n:Int) d3=_;unfold hC;rw[s4];rfl
   ·show hO (n:Int) d6=_;unfold hO;rw[s7];rfl
  obtain⟨acc,e,rfl⟩:=Zg (step:=fun (z:Int×(List aG))=>
    bif (cm .lss z.1 (q7.length:Int)) then
     (Sw.idx q7 z.1).bind fun H=>
      (Sw.app z.2 ([(.inr (.inl ((),((),(z.1,H)))):aG),(.inr (.inr (.inl ((),((),(z.1,H))))):aG)]:(List aG))).bind fun X=>
       some (Step.next ((ar .add .i64 z.1 (1:Int)),X))
    else
     some (Step.done (Ex.XT (β:=NO) z.2))) (k:=fun (aa:(List aG))=>
    (Sw.app aa ([(.inr (.inr (.inr (.inl ((),())))):aG),(.inr (.inr (.inr (.inr (.inl ((),()))))):aG),(.inr (.inr (.inr (.inr (.inr (.inl ((),())))))):aG),(.inr (.inr (.inr (.inr (.inr (.inr (.inl ((),()))))))):aG),(.inr (.inr (.inr (.inr (.inr (.inr (.inr ((),()))))))):aG)]:(List aG))).bind fun xt=>
     (eV xt (n:Int) d).bind fun C=>
      some (C.1,C.2.1,C.2.2)) (l:=q7) (fun i acc=>((i:Int),acc)) (fun D acc=>acc=(.inl ((),((),q7)):aG)::Bt 0 D) (fun acc=>acc) [(.inl ((),((),q7)):aG)] (Gu (n:=1000) (by omega) (by decide)) rfl (by
    rintro D x ad acc E rfl;have YI:D.length<=1000:=(by rw[E] at F;simp at F;omega);refine⟨_,?_,rfl⟩;simp only[kR E,YX,kF E,cM];rw[WV _ _ (by simp[Gw];omega),cM,C2 (by omega),Vs];rw[aC5]
    rfl) (by
    rintro acc rfl
    simp only[dV,pF])
  refine e.trans ?_;rw[WV _ _ (by simp[Gw];omega),cM];unfold eV;rw[CB V (by simp[Gw];omega)];rfl
 ·intro x hx;unfold upd;rw[XV (by omega)];apply NQ;rw[XV (by omega),K x (by omega)];unfold upd;rw[XV (by omega)]
end Go.ZZ
namespace Go.ZZ
open Go.Pl
open Go Go.Sw Go.Mo
def oR(d:mG)(blocks:List aR)(a b:Nat):Prop:=
 ∃f,Vw (3*blocks.length+5) d f 0/\(∀x y,blocks[x]? =some y->f x=y)/\f blocks.length=kZ a++kZ b/\f (blocks.length+1)=SR 0
variable {d:mG}{blocks:List aR}{a b:Nat}
theorem QY(h:oR d blocks a b){x:Nat}{y:aR}(hx:blocks[x]? =some y):kQ ((blocks.length:Int),d) (x:Int)=some (y,none):=by
 obtain⟨f,v,u,_,_⟩:=h;have z:x<blocks.length:=(aCb.1 hx).1;unfold kQ;rw[cl,n9 (show¬((x:Int)<0) by omega),O6,n9 (show¬((x:Int)>=(blocks.length:Int)) by omega)];show (iW d (x:Int)).bind _=_;rw[v.read (by omega) (by omega),A5,u x y hx];rfl
theorem xZ(h:oR d blocks a b):gE ((blocks.length:Int),d)=some (blocks,none):=by
 have B:3*blocks.length+5<=200:=by obtain⟨f,v,_⟩:=h;exact v.F9.2
 unfold gE
 obtain⟨acc,e,rfl⟩:=Zg (step:=fun (u:Int×(List aR))=>
  bif (cm .lss u.1 (blocks.length:Int)) then
   (kQ ((blocks.length:Int),d) u.1).bind fun z=>
    bif (Option.isSome z.2) then
     some (Step.done (Ex.ret (([]:(List aR)),z.2)))
    else
     (Sw.app u.2 ([z.1]:(List aR))).bind fun E=>
      some (Step.next ((ar .add .i64 u.1 (1:Int)),E))
  else
   some (Step.done (Ex.XT u.2))) (k:=fun (F:(List aR))=>some (F,(none:Option Int))) (l:=blocks) (fun i acc=>((i:Int),acc)) (fun C acc=>acc=C) (fun acc=>acc) [] (Gu (n:=1000) (by omega) (by decide)) rfl (by
   rintro C x H acc A rfl;have G:acc.length<=1000:=(by rw[A] at B;simp at B;omega);refine⟨_,?_,rfl⟩;have D:=QY h (x:=acc.length) (y:=x) (by rw[A];simp);simp only[kR A,YX,D,cM,p7,pF]
   rw[WV _ _ (by simp;omega),cM,C2 (by omega)]) (by
   rintro acc rfl
   simp only[dV,pF])
 exact e
theorem Zi(h:oR d blocks a b)(ha:a<=2147483647)(hb:b<=2147483647):gA ((blocks.length:Int),d)=some ((a:Int),(b:Int),none):=by
 obtain⟨f,v,_,C,_⟩:=h;unfold gA;show (iW d (blocks.length:Int)).bind _=_;rw[v.read (by omega) (by omega),A5,C];have u:Sw.aw (kZ a++kZ b) (4:Int) (8:Int) (8:Int)=some (kZ b):=by unfold Sw.aw Sw.sub kZ;simp
 have z:Sw.sub (kZ a++kZ b) (0:Int) (4:Int)=some (kZ a):=by unfold Sw.sub kZ;simp
 have A:Sw.app (kZ b) (kZ a)=some (kZ b++kZ a):=WV _ _ (by rw[Ih,Ih];decide);have B:Sw.C7 8 (kZ b++kZ a)=some (kZ b++kZ a):=by unfold Sw.C7 kZ;simp
 simp only[cM,p7,pF,Fg ha,Fg hb,u,z,A,B]
end Go.ZZ
namespace Go.ZZ
open Go.Pl
open Go Go.Sw Go.Mo
def Vt(n:Nat)(ZJ:Nx)(a b:Int):Int:=if ZJ.length>n then 2 else if a<0\/a>2147483647\/b<0\/b>2147483647 then 1 else if ZJ.any (qE n) then 1 else 0
def sT(blocks:List aR)(ZJ:Nx):List aR:=ZJ.foldl (fun acc p=>acc.set p.1.toNat p.2) blocks
theorem Bu(ZJ:Nx):∀blocks:List aR,(sT blocks ZJ).length=blocks.length:=by
 induction ZJ with
 |nil=>intro b;rfl
 |cons p l h=>intro b;unfold sT at*;rw[Z0,h];simp
theorem Zj(ZJ:Nx):∀(blocks:List aR) (f:Nat->aR),(∀p∈ZJ,0<=p.1/\p.1<(blocks.length:Int))->(∀x y,blocks[x]? =some y->f x=y)->∀x y,(sT blocks ZJ)[x]? =some y->Jt f (Dt ZJ) x=y:=by
 induction ZJ with
 |nil=>intro b f _ h;exact h
 |cons p l B=>
  intro b f z h;have C:=z p dg;unfold sT Dt Jt at*;rw[Z0,L4,Z0];refine B _ _ (fun q A=>by rw[aCs];exact z q (cz _ A)) ?_;intro x y u;unfold upd;by_cases e:x=p.1.toNat
  ·subst e;rw[aB0 (by omega)] at u;rw[YC rfl];exact pT u
  ·rw[xi (by omega)] at u;rw[XV e];exact h x y u
variable {d:mG}{blocks:List aR}{a b:Nat}
theorem zA(h:oR d blocks a b)(h0:1<=blocks.length)(h1:blocks.length<=32)(ZJ:Nx)(x y:Int)(hc:Vt blocks.length ZJ x y=0):
  ∃(d':mG) (x' y':Nat),x=(x':Int)/\y=(y':Int)/\x'<=2147483647/\y'<=2147483647/\(∀p∈ZJ,0<=p.1/\p.1<(blocks.length:Int))/\
   dA (blocks.length:Int) d ZJ x y=some (none,(blocks.length:Int),d')/\oR d' (sT blocks ZJ) x' y':=by
 unfold Vt at hc;split at hc
 ·cases hc
 rename_i L;split at hc
 ·cases hc
 rename_i M;split at hc
 ·cases hc
 rename_i D;have u:∀p∈ZJ,0<=p.1/\p.1<(blocks.length:Int):=by
  intro p u;have A:¬qE blocks.length p=true:=fun E=>D (aDe.2 ⟨p,u,E⟩);unfold qE at A;simp at A;omega
 obtain⟨x',rfl⟩:∃x':Nat,x=(x':Int):=⟨x.toNat,by omega⟩;obtain⟨y',rfl⟩:∃y':Nat,y=(y':Int):=⟨y.toNat,by omega⟩;obtain⟨f,v,F,N,O⟩:=h;obtain⟨d',G,e,H,C,I⟩:=EN v rfl h0 h1 ZJ (a:=x') (b:=y') (by omega) u (by omega) (by omega);refine⟨d',x',y',rfl,rfl,by omega,by omega,u,e,G,by rw[Bu];exact H,?_,?_,by rw[Bu];exact I⟩
 ·intro i z B;have K:i<blocks.length:=by have:=(aCb.1 B).1;rwa [Bu] at this
  rw[C i (by omega)];unfold Dt;rw[aCr,L4,aD2,Ju];unfold upd;rw[XV (by simp;omega)];exact Zj ZJ blocks f u F i z B
 ·rw[Bu,C _ (ZY _)];unfold Dt;rw[aCr,L4,aD2,Ju];unfold upd;rw[YC (by simp)]
end Go.ZZ
namespace Go.ZZ
open Go.Pl
open Go Go.Sw Go.Mo
theorem CD{n:Nat}(h0:1<=n)(h1:n<=32):rX (n:Int)=some (((3*n+5:Nat):Int),none):=by
 unfold rX;rw[cl,cg,n9 (show¬((n:Int)<1) by omega),n9 (show¬((n:Int)>32) by omega)];have h:ar .add .i64 (n:Int) (1:Int)=((n+1:Nat):Int):=C2 (by omega);have u:ar .mul .i64 (2:Int) ((n+1:Nat):Int)=((2*(n+1):Nat):Int):=by rw[show (2:Int)=((2:Nat):Int) from rfl,Ig (by omega)]
 have z:ar .add .i64 ((n+1:Nat):Int) (2:Int)=((n+1+2:Nat):Int):=by rw[p5 (by omega)];push_cast;rfl
 have A:ar .add .i64 ((n+1+2:Nat):Int) ((2*(n+1):Nat):Int)=((3*n+5:Nat):Int):=by rw[p5 (by omega)];push_cast;omega
 rw[h,u,z,A];rfl
theorem TM{α:Type}(n:Nat)(z:α)(h:n<=1000):Sw.mk (n:Int) z=some (List.replicate n z):=by
 unfold Sw.mk;rw[YC (by omega)];simp
def fresh(n:Nat):mG:=(List.replicate (3*n+5) aQ,[],-1)
theorem EO{n:Nat}(h0:1<=n)(h1:n<=32):rF (n:Int)=some (fresh n,none):=by
 unfold rF;rw[CD h0 h1,cM];show (xY ((3*n+5:Nat):Int)).bind _=_;unfold xY;rw[cl,cg,n9 (show¬(((3*n+5:Nat):Int)<1) by omega),n9 (show¬(((3*n+5:Nat):Int)>200) by omega),TM _ _ (by omega)];rfl
theorem Vw.none{m:Nat}{d:mG}{f:Nat->aR}(h:Vw m d f 0):d=(d.1,[],-1):=by
 have u:d.2.1=[]:=kt (by have:=h.xe;omega);have A:=h.left;obtain⟨x,y,z⟩:=d;simp only at u A;subst u;subst A;rfl
theorem Rh{d:mG}{blocks:List aR}{a b:Nat}(h:oR d blocks a b)(h0:1<=blocks.length)(h1:blocks.length<=32):mZ d (blocks.length:Int)=some (some ((blocks.length:Int),d),none):=by
 obtain⟨f,v,_,_,E⟩:=h;have u:=v.none;have z:=v.len;unfold mZ;rw[CD h0 h1,cM];simp only[p7,pF];rw[xE,cM,YC v.err,cn,cg];have A:d.2.1.length=0:=by rw[u];rfl
 rw[z,A,n9 (fun h=>h rfl)];simp only[p7,pF];rw[show decide (((0:Nat):Int)>0)=false from rfl,cM,pF];have B:aP d.1=some d.1:=by unfold aP;rw[WV _ _ (by simp;omega)];rfl
 rw[B,cM];have C:(d.1,([]:List (Int×aR)),d.2.2)=d:=by rw[v.left];exact u.symm
 rw[C];have D:iY (blocks.length:Int) d=some (none,(blocks.length:Int),d):=by
  unfold iY;rw[C2 (by omega),v.read (by omega) (by omega),A5,E];rfl
 rw[D];rfl
theorem NR{d:mG}{blocks:List aR}{a b:Nat}(h:oR d blocks a b):mF ((blocks.length:Int),d)=some d:=by
 obtain⟨f,v,_⟩:=h;have u:=v.F9;have z:=v.len;have A:=v.xe;unfold mF aP bV;rw[WV _ _ (by simp;omega),WV _ _ (by simp;omega)];rfl
theorem Ny{n:Nat}(h1:n<=32):oR (fresh n) (List.replicate n aQ) 0 0:=by
 refine⟨fun _=>aQ,?_,?_,rfl,rfl⟩
 ·rw[sc];refine⟨by unfold fresh;simp,by omega,rfl,ZY _,by decide,fun p u=>by simp[fresh] at u,fun a z=>?_⟩;unfold fresh;show Gc (a:Int) [] ((List.replicate (3*n+5) aQ).getD a [])=aQ;rw[Ag];show (List.replicate (3*n+5) aQ).getD a []=aQ;simp[V7,z]
 ·intro x y h;rw[aDw] at h;split at h
  ·exact pT h
  ·cases h
end Go.ZZ
namespace Go.A6
open Go.Pl
open Go Go.Sw Go.Mo
abbrev pV:=Int×aR
abbrev Ep:=Int×List pV
abbrev Bd:=Int×List pV×List Ep×Bool
def ZV(n:Int):Int->List pV->Bool
 |_,[]=>true
 |last,x::l=>if x.1<=last\/x.1>=n then false else ZV n x.1 l
def NS(n:Int)(last:Int)(x:pV):Step Int (Ex Unit Bool):=if x.1<=last\/x.1>=n then .done (.ret false) else .next x.1
theorem CE(n:Int):∀(l:List pV) (last:Int),yZ (NS n) (fun _=> .XT ()) last l=bif ZV n last l then .XT () else .ret false
 | [],_=>rfl
 |x::l,last=>by
  simp only[yZ,NS,ZV];by_cases h:x.1<=last\/x.1>=n
  ·simp only[YC h,pF]
  ·simp only[XV h];exact CE n l x.1
theorem Ri(l:List pV)(n:Int)(hl:l.length<=1000000):mB l n=some (ZV n (-1) l):=by
 unfold mB;rw[show ((-1:Int),(0:Int))=(fun (i:Nat) (a:Int)=>(a,(i:Int))) 0 (-1) from rfl];rw[Ma (l:=l) (fun (i:Nat) (a:Int)=>(a,(i:Int))) (fun _ _=>True) (NS n) (fun _=> .XT ()) (-1) (Gu hl (by decide)) trivial]
 ·rw[CE];cases ZV n (-1) l<;>rfl
 ·intro A x B acc h _;refine⟨?_,fun _ _=>trivial⟩;simp only[kR h,YX,kF h,cM,cle,O6,PX,C2 (show A.length<=4611686018427387904 by rw[h] at hl;simp at hl;omega),NS];by_cases u:x.1<=acc
  ·simp[u,Jh]
  ·by_cases z:x.1>=n
   ·simp[u,z,Jh]
   ·simp[u,z,Jh]
 ·intro acc _;simp only[dV,pF]
def Gx(n base:Int):Int->List Ep->Bool
 |_,[]=>true
 |i,e::l=>if ZV n (-1) e.2=true/\e.1=base+i then Gx n base (i+1) l else false
def uS(b:Bd)(n:Int):Int:=
 if n<1\/n>32\/b.1<0\/b.1>2147483647 then 1 else if b.2.2.1.length>4 then 2
 else if ZV n (-1) b.2.1=true/\¬(b.2.2.2=true/\b.2.2.1.length>0)/\(b.2.2.1.length:Int)<=b.1/\Gx n (b.1 - b.2.2.1.length+1) 0 b.2.2.1=true then 0 else 3
structure Sm (b:Bd):Prop where
 op:b.2.1.length<=1000000
 se:b.2.2.1.length<=1000000
 ep:∀e∈b.2.2.1,e.2.length<=1000000
theorem Ah{A:Type}{l pre rest:List A}{x:A}(h:l=pre++x::rest):x∈l:=by rw[h];simp
def opt(n:Int):Option Int:=if n=0 then none else some n
def MK(n base:Int):Int->List Ep->Bool
 |_,[]=>true
 |i,e::l=>if ZV n (-1) e.2=true/\e.1=base+i/\1<=e.1 then MK n base (i+1) l else false
def TN(n base:Int)(i:Int)(e:Ep):Step Int (Ex Unit (Option Int)):=if ZV n (-1) e.2=true/\e.1=base+i/\1<=e.1 then .next (i+1) else .done (.ret (some 3))
theorem JC(n base:Int):∀(l:List Ep) (i:Int),yZ (TN n base) (fun _=> .XT ()) i l=bif MK n base i l then .XT () else .ret (some 3)
 | [],_=>rfl
 |e::l,i=>by
  simp only[yZ,TN,MK];by_cases h:ZV n (-1) e.2=true/\e.1=base+i/\1<=e.1
  ·simp only[YC h];exact JC n base l (i+1)
  ·simp only[XV h,pF]
theorem JD(n base:Int)(h:1<=base):∀(l:List Ep) (i:Int),0<=i->MK n base i l=Gx n base i l
 | [],_,_=>rfl
 |e::l,i,A=>by
  simp only[MK,Gx];by_cases u:ZV n (-1) e.2=true/\e.1=base+i
  ·rw[YC u,YC ⟨u.1,u.2,by omega⟩];exact JD n base h l (i+1) (by omega)
  ·rw[XV u,XV fun z=>u ⟨z.1,z.2.1⟩]
theorem o8(b:Bd)(n:Int)(hb:Sm b):lN b n=some (opt (uS b n)):=by
 have H:=hb.se
 have Q:∀V:0<=b.1/\b.1<=2147483647,lp (β:=Unit) (fun (F:Int)=>
          bif (cm .lss F (b.2.2.1.length:Int)) then
           (Sw.idx b.2.2.1 F).bind fun N=>
            ((mB N.2 n).bind fun aa=>
             bif (!aa) then
              some true
             else
              bif (cm .neq N.1 (ar .add .i64 (ar .add .i64 (ar .sub .i64 b.1 (b.2.2.1.length:Int)) (1:Int)) F)) then
               some true
              else
               some (cm .lss N.1 (1:Int))).bind fun ab=>
             bif ab then
              some (.done (.ret (some (3:Int))))
             else
              some (.next (ar .add .i64 F (1:Int)))
          else
           some (.done (.XT ()))
          ) (0:Int) (fun (_:Unit)=>
         some (none:Option Int))=some (bif MK n (b.1 - b.2.2.1.length+1) 0 b.2.2.1 then none else some 3):=by
  intro V;show lp _ ((fun (i:Nat) (_:Int)=>(i:Int)) 0 0) _=_;rw[Ma (l:=b.2.2.1) (fun (i:Nat) (_:Int)=>(i:Int)) (fun B a=>a=(B.length:Int)) (TN n (b.1 - b.2.2.1.length+1)) (fun _=> .XT ()) 0 (Gu H (by decide)) rfl]
  ·rw[JC];cases MK n (b.1 - b.2.2.1.length+1) 0 b.2.2.1<;>rfl
  ·intro B x ac acc h X;subst X;have hp:B.length<=1000000:=(by rw[h] at H;simp at H;omega);refine⟨?_,fun ZB G=>?_⟩
   ·simp only[kR h,YX,kF h,cM,Ri x.2 n (hb.ep x (Ah h)),PX,C2 (show B.length<=4611686018427387904 by omega),TN,cn,cl];rw[T5 (by omega),p5 (m:=b.1 - (b.2.2.1.length:Int)) (by omega),p5 (by omega)];cases hr:ZV n (-1) x.2 with
    |false=>simp[Jh]
    |true=>
     by_cases C:x.1=b.1 - (b.2.2.1.length:Int)+1+(B.length:Int)
     ·by_cases I:x.1<1
      ·have K:¬(1<=x.1):=(by omega);simp[<-C,I,K,Jh]
      ·have K:1<=x.1:=(by omega);simp[<-C,I,K,Jh]
     ·simp[C,Jh]
   ·simp only[TN] at G;split at G
    ·cases G;simp
    ·cases G
  ·intro acc _;simp only[dV,pF]
 unfold lN;simp only[Ri b.2.1 n hb.op,cM];simp only[cl,cg,PX,uS,aC3,opt];by_cases u:n<1
 ·simp[u]
 by_cases z:n>32
 ·simp[u,z]
 by_cases D:b.1<0
 ·simp[u,z,D]
 by_cases L:b.1>2147483647
 ·simp[u,z,D,L]
 have O:=Q ⟨by omega,by omega⟩;simp only[cl,PX,aC3] at O;by_cases P:(b.2.2.1.length:Int)>4
 ·have M:b.2.2.1.length>4:=by omega
  simp[u,z,D,L,P,M]
 have M:¬(b.2.2.1.length>4):=by omega
 simp only[u,z,D,L,P,M,r5,cM,H3,V6,aE1];cases hr:ZV n (-1) b.2.1 with
 |false=>simp
 |true=>
  simp only[lu,V6,r5];have R:(b.2.2.1.length:Int)<=b.1->MK n (b.1 - b.2.2.1.length+1) 0 b.2.2.1=Gx n (b.1 - b.2.2.1.length+1) 0 b.2.2.1:=fun h=>JD n _ (by omega) _ 0 (by omega);have S:¬((b.2.2.1.length:Int)<=b.1)->MK n (b.1 - b.2.2.1.length+1) 0 b.2.2.1=false:=fun h=>by
   cases Y7:b.2.2.1 with
   |nil=>rw[Y7] at h;simp at h;omega
   |cons e l=>
    simp only[MK];rw[XV];rintro⟨_,C,I⟩;rw[Y7] at h;omega
  by_cases A:b.2.2.2=true/\b.2.2.1.length>0
  ·have T:(b.2.2.1.length:Int)>0:=(by omega);simp[A.1,A.2,T]
  ·have U:(if b.2.2.2=true then some (decide ((b.2.2.1.length:Int)>0)) else some false:Option Bool)=some false:=by
    cases hbh:b.2.2.2 with
    |false=>simp
    |true=>simp[hbh] at A;simp[A]
   simp only[U,cM,V6,r5,O];by_cases E:(b.2.2.1.length:Int)<=b.1
   ·rw[R E];cases Gx n (b.1 - b.2.2.1.length+1) 0 b.2.2.1<;>simp[E,A]
   ·rw[S E];simp[E]
theorem B2(b:Bd)(hb:Sm b):nK b=some b:=by
 have B:=hb.op;have u:=hb.se;unfold nK gQ;have z:∀l:List pV,l.length<=1000000->bV l=some l:=fun l h=>by
  unfold bV;rw[WV [] l (by simp;omega)];rfl
 rw[z _ B,WV [] b.2.2.1 (by simp;omega)];simp only[cM,Z1];show lp _ ((fun (i:Nat) (_:Unit)=>((i:Int),b.2.2.1)) 0 ()) _=_;rw[Ma (l:=b.2.2.1) (fun (i:Nat) (_:Unit)=>((i:Int),b.2.2.1)) (fun _ _=>True) (fun _ _=> .next ()) (fun _=> .XT b.2.2.1) () (Gu u (by decide)) trivial]
 ·have:∀l:List Ep,yZ (D:=Ex (List Ep) Bd) (fun (_:Unit) (_:Ep)=>Step.next ()) (fun _=> .XT b.2.2.1) () l= .XT b.2.2.1:=by
   intro l;induction l with
   |nil=>rfl
   |cons x l C=>exact C
  rw[this];rfl
 ·intro A x F acc h _;have E:A.length<=1000000:=by rw[h] at u;simp at u;omega
  refine⟨?_,fun _ _=>trivial⟩;simp only[kR h,YX,kF h,cM,z _ (hb.ep x (Ah h)),C2 (show A.length<=4611686018427387904 by omega),Jh,A5];rw[h];simp
 ·intro acc _;simp only[dV,pF]
theorem Fh(n a:Int):∀(l:List pV) (last:Int),ZV n last l=true->∃L1 L2,l=L1++L2/\(∀x∈L1,x.1<a)/\(∀x∈L2,a<=x.1)/\(L2.filter fun x=>x.1≠a)=(match L2 with | []=>[] | y::r=>if y.1=a then r else L2)
 | [],_,_=>⟨[],[],rfl,by simp,by simp,rfl⟩
 |x::l,last,h=>by
  simp only[ZV] at h;split at h
  ·cases h
  ·by_cases C:x.1<a
   ·obtain⟨L1,L2,rfl,F,G,H⟩:=Fh n a l x.1 h;exact⟨x::L1,L2,rfl,fun y u=>by rcases B1.1 u with rfl | u;exact C;exact F y u,G,H⟩
   ·have D:∀(l:List pV) (last:Int),ZV n last l=true->∀y∈l,last<y.1:=by
     intro l
     induction l with
     |nil=>intro _ _ y u;simp at u
     |cons z l I=>
      intro last h y u;simp only[ZV] at h;split at h
      ·cases h
      ·rename_i K;rcases B1.1 u with rfl | u
       ·omega
       ·have:=I z.1 h y u;omega
    have A:=D l x.1 h;refine⟨[],x::l,rfl,by simp,fun y u=>by rcases B1.1 u with rfl | u;omega;have:=A y u;omega,?_⟩;have E:(l.filter fun y=>decide (y.1≠a))=l:=aDb.2 fun y u=>by have:=A y u;simp;omega
    simp only[aD5,E];by_cases B:x.1=a
    ·simp[B]
    ·simp[B]
theorem j0(n:Int):∀(l:List pV) (last:Int),ZV n last l=true->∀x∈l,last<x.1/\x.1<n
 | [],_,_,x,u=>by simp at u
 |y::l,last,h,x,u=>by
  simp only[ZV] at h;split at h
  ·cases h
  ·rename_i z;rcases B1.1 u with rfl | u
   ·omega
   ·have:=j0 n l y.1 h x u;omega
theorem Zk(L1 L2:List pV)(a:Int)(h1:∀x∈L1,x.1<a)(h2:∀x∈L2,a<=x.1)(hl:(L1++L2).length<=1000000)(hr:∀x∈L1++L2,-1000000000<=x.1/\x.1<=1000000000)(hab: -1000000000<=a/\a<=1000000000):
  cA (L1++L2) a=some ((L1.length:Int),match L2 with | []=>false | y::_=>decide (y.1=a)):=by
 obtain⟨l,B⟩:∃l,l=L1++L2:=⟨_,rfl⟩;rw[<-B] at hl hr ⊢;unfold cA tB;have F:l.length=L1.length+L2.length:=by rw[B,sM]
 have G:∀x∈l,ar .sub .i64 x.1 a=x.1 - a:=fun x C=>T5 (by have:=hr x C;omega)
 obtain⟨y,rfl,Q⟩:=NL (k:=fun (E:Int)=>
 (bif (cm .lss E (l.length:Int)) then
  (Sw.idx l E).bind fun L=>
   (some (ar .sub .i64 L.1 a)).bind fun M=>
    some (cm .eql M (0:Int))
 else
  some false).bind fun N=>
  some (E,N)) (step:=fun (u:Int×Int)=>
  bif (cm .lss u.1 u.2) then
   (Sw.idx l (IntKind.wrap .i64 (sh .shr .u64 (IntKind.wrap .u64 (ar .add .i64 u.1 u.2)) (1:Int)))).bind fun O=>
    (some (ar .sub .i64 O.1 a)).bind fun P=>
     bif (cm .lss P (0:Int)) then
      some (.next ((ar .add .i64 (IntKind.wrap .i64 (sh .shr .u64 (IntKind.wrap .u64 (ar .add .i64 u.1 u.2)) (1:Int))) (1:Int)),u.2))
     else
      some (.next (u.1,(IntKind.wrap .i64 (sh .shr .u64 (IntKind.wrap .u64 (ar .add .i64 u.1 u.2)) (1:Int)))))
  else
   some (.done (.XT u.1))) (fun s=>∃i j:Nat,s=((i:Int),(j:Int))/\i<=L1.length/\L1.length<=j/\j<=l.length) (fun s=>(s.2 - s.1).toNat) (fun y=>y=(L1.length:Int)) ((0:Int),(l.length:Int)) (by unfold fL;simp;omega) ⟨0,l.length,rfl,by omega,by omega,by omega⟩ (by
   rintro s ⟨i,j,rfl,T,U,V⟩;simp only[cl,PX,aC3];by_cases X:i<j
   ·left;have D:(i:Int)<(j:Int):=(by omega);rw[YC D,WG (by omega)];obtain⟨h,R⟩:∃h,h=(i+j) / 2:=⟨_,rfl⟩;rw[<-R];have aa:h<j:=(by omega);have ab:i<=h:=(by omega);obtain⟨x,S,A⟩:=xD (l:=l) (n:=(h:Int)) (by omega) (by omega);simp only[A5] at A;have H:x∈l:=aB7 A;simp only[S,cM,G x H];rw[B] at A;by_cases C:x.1 - a<0
    ·rw[YC C];have z:h<L1.length:=by
      rcases R8 h L1.length with z | z
      ·exact z
      ·rw[aDq z] at A;have:=h2 x (aB7 A);omega
     refine⟨_,rfl,⟨h+1,j,?_,by omega,U,V⟩,?_⟩
     ·rw[C2 (by omega)]
     ·simp only[C2 (show h<=4611686018427387904 by omega)];omega
    ·rw[XV C];have z:L1.length<=h:=by
      rcases R8 h L1.length with z | z
      ·rw[aBu z] at A;have:=h1 x (aB7 A);omega
      ·exact z
     exact⟨_,rfl,⟨i,h,rfl,T,z,by omega⟩,by simp only;omega⟩
   ·right;have D:¬((i:Int)<(j:Int)):=(by omega);rw[XV D]
    exact⟨_,rfl,by omega⟩)
 rw[Q];simp only[cl,ce,PX,aC3];cases L2 with
 |nil=>
  have:¬((L1.length:Int)<(l.length:Int)):=by simp at F;omega
  rw[XV this];rfl
 |cons y L2=>
  have I:(L1.length:Int)<(l.length:Int):=by simp at F;omega
  rw[YC I,kF B];have K:=G y (by rw[B];simp);simp only[cM,K];congr 3;by_cases h:y.1=a
  ·simp[h]
  ·have:¬(y.1 - a=0):=(by omega);simp[h,this]
def X5(l:List pV)(p:pV):List pV:=(l.takeWhile fun x=>x.1<p.1)++p::(l.dropWhile fun x=>x.1<p.1).filter fun x=>x.1≠p.1
theorem Gy{L1 L2:List pV}{p:pV}(h1:∀x∈L1,x.1<p.1)(h2:∀x∈L2,p.1<=x.1):X5 (L1++L2) p=L1++p::L2.filter fun x=>x.1≠p.1:=by
 unfold X5;have A:∀L1:List pV,(∀x∈L1,x.1<p.1)->(L1++L2).takeWhile (fun x=>decide (x.1<p.1))=L1/\(L1++L2).dropWhile (fun x=>decide (x.1<p.1))=L2:=by
  intro L1
  induction L1 with
  |nil=>
   intro _;cases L2 with
   |nil=>simp
   |cons y L2=>
    have:=h2 y (by simp);have B:¬(y.1<p.1):=(by omega);simp[B]
  |cons x L1 E=>
   intro h;have C:=h x (by simp);obtain⟨u,z⟩:=E fun y D=>h y (by simp[D]);simp[C,u,z]
 obtain⟨u,z⟩:=A L1 h1;rw[u,z]
def zB:Bd:=(0,[],[],false)
theorem u1{b:Bd}{n:Int}(h:uS b n=0):1<=n/\n<=32/\0<=b.1/\b.1<=2147483647/\b.2.2.1.length<=4/\ZV n (-1) b.2.1=true/\¬(b.2.2.2=true/\b.2.2.1.length>0)/\(b.2.2.1.length:Int)<=b.1/\Gx n (b.1 - b.2.2.1.length+1) 0 b.2.2.1=true:=by
 unfold uS at h;split at h
 ·cases h
 ·rename_i z;split at h
  ·cases h
  ·rename_i A;split at h
   ·rename_i u;exact⟨by omega,by omega,by omega,by omega,by omega,u.1,u.2.1,u.2.2.1,u.2.2.2⟩
   ·cases h
theorem Md{n base:Int}:∀{l:List Ep} {i:Int},Gx n base i l=true->∀e∈l,ZV n (-1) e.2=true
 | [],_,_,e,u=>by simp at u
 |x::l,i,h,e,u=>by
  simp only[Gx] at h;split at h
  ·rename_i z;rcases B1.1 u with rfl | u
   ·exact z.1
   ·exact Md h e u
  ·cases h
theorem xh(b:Bd)(n:Int)(p:pV)(hb:Sm b):uB b n p=some (if uS b n≠0 then (zB,some (uS b n)) else if p.1<0\/p.1>=n then (zB,some 1) else ((b.1,X5 b.2.1 p,b.2.2.1,b.2.2.2),none)):=by
 unfold uB;simp only[o8 b n hb,B2 b hb,cM];by_cases z:uS b n=0
 ·obtain⟨N,O,P,Q,R,E,S,T,U⟩:=u1 z;simp only[opt,z,r7,p7,pF,ne_eq,aC1,r5];by_cases A:p.1<0
  ·simp[cl,A,zB]
  by_cases B:p.1>=n
  ·simp[cl,O6,A,B,zB]
  obtain⟨u,L2,F,G,H,M⟩:=Fh n p.1 b.2.1 _ E;have C:=j0 n b.2.1 _ E;have h:=hb.op;rw[F] at C h;have I:=Zk u L2 p.1 G H h (fun x L=>by have:=C x L;omega) (by omega);rw[XV (by omega)];rw[F,I,Gy G H,M];simp only[cl,O6,A,B,H3,pF,cM,jp];cases L2 with
  |nil=>
   simp only[pF,gM,Sw.ins,cw];rw[YC ⟨by omega,by omega,by simp at h ⊢;omega⟩];simp
  |cons y L2=>
   by_cases D:y.1=p.1
   ·have K:(u++y::L2).set u.length p=u++p::L2:=(by simp);simp only[D,fw,YX,nD,cM,A5,r7,K]
   ·simp only[D,H3,pF,gM,Sw.ins,r5];rw[YC ⟨by omega,by simp;omega,by simp at h ⊢;omega⟩];simp
 ·simp[opt,z,zB]
theorem NT(b:Bd)(n:Int)(hb:Sm b):sB b n=some (if uS b n≠0 then (zB,some (uS b n)) else if b.1=2147483647 then (zB,some 2) else
  if b.2.2.2=true then ((b.1+1,[],b.2.2.1,b.2.2.2),none) else if b.2.2.1.length=4 then ((b.1+1,[],[],true),none) else ((b.1+1,[],b.2.2.1++[(b.1+1,b.2.1)],b.2.2.2),none)):=by
 unfold sB;simp only[o8 b n hb,B2 b hb,cM];by_cases h:uS b n=0
 ·obtain⟨B,C,D,E,F,G,H,I,K⟩:=u1 h;simp only[opt,h,r7,p7,pF,ne_eq,aC1,r5,ce];by_cases u:b.1=2147483647
  ·simp[u,zB]
  simp only[u,H3,pF,r5];rw[p5 (by omega)];cases hbh:b.2.2.2 with
  |true=>simp
  |false=>
   by_cases z:b.2.2.1.length=4
   ·simp[z]
   ·have A:¬((b.2.2.1.length:Int)=4):=(by omega);simp only[A,H3,pF,z,r5,V6];rw[WV _ _ (by simp;omega)];rfl
 ·simp[opt,h,zB]
theorem EP(l:List Ep)(num:Int)(hl:l.length<=1000000):bX l num=some (l.filter fun e=>decide (num<e.1)):=by
 have M:cC l num=some (match l.findIdx? (fun e=>decide (e.1<=num)) with | some j=>(j:Int) | none=> -1):=by
  unfold cC;show lp _ ((fun (i:Nat)=>(i:Int)) 0) _=_;rw[Tg (l:=l) (fun (i:Nat)=>(i:Int)) (fun e=>decide (e.1<=num)) (fun j=>(j:Int)) () (Gu hl (by decide))]
  ·cases l.findIdx? (fun e=>decide (e.1<=num))<;>rfl
  ·intro u x rest h;have hp:u.length<=1000000:=(by rw[h] at hl;simp at hl;omega);simp only[kR h,YX,kF h,cM,C2 (show u.length<=4611686018427387904 by omega),oO,cle,PX];by_cases E:x.1<=num<;>simp[E]
  ·simp only[dV,pF]
 unfold bX;rw[M];simp only[cM];cases hf:l.findIdx? (fun e=>decide (e.1<=num)) with
 |none=>
  have E:=List.findIdx?_eq_none_iff.1 hf;have:l.filter (fun e=>decide (num<e.1))=l:=aDb.2 fun e F=>by have:=E e F;simp at this ⊢;omega
  simp[ce,this]
 |some j=>
  obtain⟨hj,E,h2⟩:=List.findIdx?_eq_some_iff_getElem.1 hf;obtain⟨P,B,R,rfl,aa⟩:∃P B R,l=P++B::R/\P.length=j:=⟨l.take j,l[j],l.drop (j+1),by rw[List.getElem_cons_drop,db],by rw[I8];omega⟩;subst aa;have ab:B.1<=num:=by simpa using E
  have N:∀e∈P,num<e.1:=by
   intro e F;obtain⟨q,L,rfl⟩:=aEd F;have:=h2 q L;rw[aC8 L] at this;simp at this;omega
  have O:P.filter (fun e=>decide (num<e.1))=P:=aDb.2 fun e F=>by simpa using N e F
  have Q:¬((P.length:Int)= -1):=by omega
  simp only[ce,Q,H3,pF];have gv:P.length<=1000000:=by simp at hl;omega
  rw[C2 (by omega)];show lp _ ((fun (t:Nat) (a:Int×List Ep)=>(a.1,((P.length+1+t:Nat):Int),a.2)) 0 ((P.length:Int),P++B::R)) _=_;refine Ds (l:=R) (fun (t:Nat) (a:Int×List Ep)=>(a.1,((P.length+1+t:Nat):Int),a.2))
   (fun u a=>∃K J:List Ep,K=P++u.filter (fun e=>decide (num<e.1))/\a.1=(K.length:Int)/\a.2=K++J++R.drop u.length/\K.length+J.length=P.length+1+u.length)
   (fun a=>(a.1,a.2)) ((P.length:Int),P++B::R) (by unfold fL;simp at hl;omega) ⟨P,[B],by simp,rfl,by simp,by simp⟩ ?_ ?_ ?_
  ·rintro u x rest ⟨i,xs⟩ h ⟨K,J,C,z,A,D⟩;simp only at z A;subst z A;have ac:R.length=u.length+1+rest.length:=(by rw[h];simp;omega);have G:((P.length+1+u.length:Nat):Int)<((K++J++R.drop u.length).length:Int):=by
    simp only[sM,Z2];omega
   have JX:R.drop u.length=x::rest:=(by rw[h];simp);have S:Sw.idx (K++J++R.drop u.length) ((P.length+1+u.length:Nat):Int)=some x:=by
    rw[JX];apply sG;rw[aDq (by rw[sM];omega),sM,D];simp
   have H:R.drop (u++[x]).length=rest:=(by rw[h];simp);simp only[cl,G,fw,YX,S,cM,oO,cle,PX];rw[C2 (show P.length+1+u.length<=4611686018427387904 by simp at hl;omega)];by_cases I:x.1<=num
   ·refine⟨((K.length:Int),K++J++R.drop u.length),by simp[I];omega,K,J++[x],?_,rfl,?_,?_⟩
    ·rw[C,aB4];have:¬(num<x.1):=(by omega);simp[this]
    ·simp only;rw[JX,H];simp
    ·simp;omega
   ·have T:J≠ []:=by
     rintro rfl;have:=aCx (fun e:Ep=>decide (num<e.1)) u;rw[C] at D;simp at D;omega
    cases J with
    |nil=>exact absurd rfl T
    |cons y J=>
     have U:Sw.idx (K++y::J++R.drop u.length) (K.length:Int)=some y:=by
      rw[H7];exact nD K y (J++R.drop u.length)
     rw[C2 (show K.length<=4611686018427387904 by
      have:K.length<=P.length+1+u.length:=by omega
      simp at hl;omega)]
     refine⟨(((K.length+1:Nat):Int),K++x::J++R.drop u.length),?_,K++[x],J++[x],?_,by simp,?_,?_⟩
     ·simp only[I,H3,yd,r7,U,cM];simp;omega
     ·rw[C,aB4];have:num<x.1:=(by omega);simp[this]
     ·simp only;rw[JX,H];simp
     ·simp at D ⊢;omega
  ·rintro⟨i,xs⟩ ⟨K,J,C,z,A,D⟩;simp only at z A;subst z A;have G:¬(((P.length+1+R.length:Nat):Int)<((K++J++R.drop R.length).length:Int)):=by
    simp only[sM,Z2];omega
   simp only[cl,G,H3,pF]
  ·rintro⟨i,xs⟩ ⟨K,J,C,z,A,D⟩;simp only at z A;subst z A;have V:R.drop R.length=[]:=List.drop_length;simp only[V,cw];have X:Sw.sub (K++J) (K.length:Int) ((K++J).length:Int)=some J:=by
    rw[Sw.sub,YC (by simp only[sM];omega),A5,A5,aDd,tv]
   simp only[X,cM,A5];have e2:List.take K.length (K++J)=K:=(by simp);rw[e2,Sw.sub,YC (by simp only[sM];omega)];simp only[cM,A5,Int.toNat_zero,List.drop_zero,aCo,E4];rw[C,aB4,O,aD5];have:¬(num<B.1):=(by omega);simp[this]
theorem NU(b:Bd)(n num:Int)(hb:Sm b):pS b n num=some (if uS b n≠0 then (zB,some (uS b n)) else if num<0\/num>b.1 then (zB,some 1) else
  ((b.1,b.2.1,b.2.2.1.filter (fun e=>decide (num<e.1)),if num=b.1 then false else b.2.2.2),none)):=by
 unfold pS;simp only[o8 b n hb,B2 b hb,cM,EP b.2.2.1 num hb.se];by_cases u:uS b n=0
 ·simp only[opt,u,r7,p7,pF,ne_eq,aC1,r5,ce,cl,cg,jp];by_cases h:num<0
  ·simp[h,zB]
  by_cases z:num>b.1
  ·simp[h,z,zB]
  rw[XV (by omega)];by_cases A:num=b.1
  ·subst A;simp[h]
  ·simp[h,z,A]
 ·simp[opt,u,zB]
def Bv(A:List (Option pV))(p:pV):List (Option pV):=A.set p.1.toNat (some p)
def Rel(A:List (Option pV)):Prop:=∀(k:Nat) (p:pV),A[k]? =some (some p)->p.1=(k:Int)
theorem Rel.set{A:List (Option pV)}{p:pV}(h:Rel A)(hp:0<=p.1):Rel (Bv A p):=by
 intro k q u;unfold Bv at u;by_cases z:p.1.toNat=k
 ·subst z;by_cases B:p.1.toNat<A.length
  ·rw[aB0 B] at u;cases u;omega
  ·rw[dc (by rw[aCs];omega)] at u;cases u
 ·rw[xi z] at u;exact h k q u
def pW(A:List (Option pV))(num:Int)(l:List Ep):List (Option pV):=l.foldl (fun A e=>if num<e.1 then e.2.foldl Bv A else A) A
theorem Vu(l:List pV):∀(A:List (Option pV)),(l.foldl Bv A).length=A.length:=by
 induction l with
 |nil=>intro A;rfl
 |cons x l h=>intro A;rw[Z0,h];simp[Bv]
theorem Bw(num:Int)(l:List Ep):∀(A:List (Option pV)),(pW A num l).length=A.length:=by
 induction l with
 |nil=>intro A;rfl
 |cons x l h=>
  intro A;unfold pW at h ⊢;rw[Z0,h];split
  ·exact Vu _ _
  ·rfl
theorem ju(b:Bd)(n num:Int)(hb:Sm b):nL b n num=some (if uS b n≠0 then ((0,[]),false,some (uS b n)) else if num<0\/num>b.1 then ((0,[]),false,some 1) else
  if b.1 - num>b.2.2.1.length then ((0,[]),false,none) else ((b.1,(pW (List.replicate 32 none) num b.2.2.1).filterMap id),true,none)):=by
 unfold nL;simp only[o8 b n hb,cM];by_cases F:uS b n=0
 ·obtain⟨k1,k2,k3,k4,k5,k6,k7,k8,U⟩:=u1 F;simp only[opt,F,r7,p7,pF,ne_eq,aC1,r5];by_cases G:num<0
  ·simp[cl,G]
  by_cases M:num>b.1
  ·simp[cl,cg,G,M]
  rw[XV (by omega)];simp only[cl,cg,G,M,H3,pF,cM];rw[T5 (by omega)];by_cases N:b.1 - num>b.2.2.1.length
  ·simp[N]
  simp only[N,H3,pF,r5];have H:=hb.se;show lp _ ((fun (i:Nat) (a:List (Option pV))=>((i:Int),a)) 0 (List.replicate 32 none)) _=_;refine Ds (l:=b.2.2.1) (fun (i:Nat) (a:List (Option pV))=>((i:Int),a)) (fun u a=>a=pW (List.replicate 32 none) num u) (fun a=>a) (List.replicate 32 none) (Gu H (by decide)) rfl ?_ ?_ ?_
  ·intro u e T acc h C;have P:u.length<=1000000:=(by rw[h] at H;simp at H;omega);have I:=hb.ep e (Ah h);have Q:=Md U e (Ah h);have R:=j0 n e.2 _ Q;have D:acc.length=32:=(by rw[C,Bw];simp);refine⟨if num<e.1 then e.2.foldl Bv acc else acc,?_,by rw[C];simp[pW]⟩;have K:(u.length:Int)<(b.2.2.1.length:Int):=(by rw[h];simp;omega);simp only[K,fw,YX,kF h,cM];show lp _ ((fun (i:Nat) (a:List (Option pV))=>((i:Int),a)) 0 acc) _=_;refine Ds (l:=e.2) (fun (i:Nat) (a:List (Option pV))=>((i:Int),a)) (fun u a=>a=if num<e.1 then u.foldl Bv acc else acc) (fun a=>a) acc (Gu I (by decide)) (by simp) ?_ ?_ ?_
   ·intro O x ac B E z;have X:O.length<=1000000:=(by rw[E] at I;simp at I;omega);have S:(O.length:Int)<(e.2.length:Int):=(by rw[E];simp;omega);have aa:=R x (Ah E)
    refine⟨if num<e.1 then Bv B x else B,?_,by
     rw[z];by_cases A:num<e.1
     ·simp[A]
     ·simp[A]⟩
    simp only[S,fw,YX,kF E,cM];rw[C2 (by omega)];by_cases A:num<e.1
    ·have L:e.1>num:=A;have ab:B.length=32:=(by rw[z,YC A,Vu];exact D);obtain⟨y,V,_⟩:=xD (l:=B) (n:=x.1) (by omega) (by omega);simp only[L,fw,YX,V,cM,r7,A,Bv]
    ·have L:¬(e.1>num):=A;simp only[L,H3,pF,A,r5]
   ·intro B _;simp
   ·intro B z;rw[C2 (by omega),z]
  ·intro acc _;simp
  ·intro acc C;have D:acc.length=32:=(by rw[C,Bw];simp);rw[<-C];show lp _ ((fun (i:Nat) (a:List pV)=>((i:Int),a)) 0 []) _=_;refine Ds (l:=acc) (fun (i:Nat) (a:List pV)=>((i:Int),a)) (fun u a=>a=u.filterMap id) (fun a=>a) [] (by unfold fL;omega) rfl ?_ ?_ ?_
   ·intro u x T a h z;have P:u.length<32:=(by rw[<-D,h];simp);have K:(u.length:Int)<32:=(by omega);have cq:=List.length_filterMap_le id u;simp only[K,fw,YX,kF h,cM];cases x with
    |none=>
     refine⟨a,?_,by rw[z];simp⟩;simp only[p7,pF];rw[C2 (by omega)]
    |some x=>
     refine⟨a++[x],?_,by rw[z];simp⟩;simp only[aCv,YX,cM];rw[WV _ _ (by rw[z];simp;omega),cM,C2 (by omega)]
   ·intro a _;rw[D];rfl
   ·intro a z;rw[z]
 ·simp[opt,F]
theorem Vv{n:Int}{p:pV}(hp:0<=p.1/\p.1<n){l:List pV}(h:ZV n (-1) l=true):ZV n (-1) (X5 l p)=true:=by
 obtain⟨u,D,rfl,I,K,M⟩:=Fh n p.1 l _ h;rw[Gy I K];have L:∀(u:List pV) (last:Int) (R:List pV),ZV n last (u++D)=true->(∀x∈u,x.1<p.1)->last<p.1->(∀C,C<p.1->ZV n C D=true->ZV n C R=true)->ZV n last (u++R)=true:=by
  intro u
  induction u with
  |nil=>intro last R z _ F E;exact E last F z
  |cons x u N=>
   intro last R z G F E;simp only[fy,ZV] at z ⊢;split at z
   ·cases z
   ·rename_i H;rw[XV H];exact N x.1 R z (fun y A=>G y (by simp[A])) (G x (by simp)) E
 refine L u (-1) _ h I (by omega) fun C O B=>?_;simp only[ZV];rw[XV (by omega),M];cases D with
 |nil=>rfl
 |cons y D=>
  simp only[ZV] at B;split at B
  ·cases B
  ·rename_i H;by_cases A:y.1=p.1
   ·simp only[A,r7];rw[<-A];exact B
   ·simp only[A,r5,ZV];have:=K y (by simp);rw[XV (by omega)];exact B
theorem Nz{n base:Int}{e:Ep}:∀{l:List Ep} {i:Int},Gx n base i l=true->ZV n (-1) e.2=true->e.1=base+i+l.length->Gx n base i (l++[e])=true
 | [],i,_,u,z=>by simp only[Z1,Gx];rw[YC ⟨u,by simpa using z⟩]
 |x::l,i,h,u,z=>by
  simp only[fy,Gx] at h ⊢;split at h
  ·rename_i A;rw[YC A];exact Nz h u (by rw[z];simp only[H6];omega)
  ·cases h
theorem Oa{n base num:Int}:∀{l:List Ep} {i:Int},Gx n base i l=true->Gx n (base+(l.length - (l.filter fun e=>decide (num<e.1)).length:Int)) i (l.filter fun e=>decide (num<e.1))=true
 | [],_,_=>by simp[Gx]
 |x::l,i,h=>by
  have E:=h;simp only[Gx] at h;split at h
  ·rename_i H;by_cases C:num<x.1
   ·
    have F:∀{l:List Ep} {j:Int},Gx n base j l=true->num<base+j->∀e∈l,num<e.1:=by
     intro l
     induction l with
     |nil=>intro j _ _ e u;simp at u
     |cons y l A=>
      intro j z I e u;simp only[Gx] at z;split at z
      ·rename_i D;rcases B1.1 u with rfl | u
       ·omega
       ·exact A z (by omega) e u
      ·cases z
    have B:(x::l).filter (fun e=>decide (num<e.1))=x::l:=aDb.2 fun e u=>by
     rcases B1.1 u with rfl | u
     ·simpa using C
     ·have:=F h (by omega) e u;simpa using this
    rw[B];simpa using E
   ·have B:(x::l).filter (fun e=>decide (num<e.1))=l.filter (fun e=>decide (num<e.1)):=(by simp[C]);rw[B];have A:=Oa (num:=num) h;have G:∀{l:List Ep} {b j:Int},Gx n b (j+1) l=true->Gx n (b+1) j l=true:=by
     intro l
     induction l with
     |nil=>intro _ _ _;rfl
     |cons y l A=>
      intro b j z;simp only[Gx] at z ⊢;split at z
      ·rename_i D;rw[YC ⟨D.1,by omega⟩];exact A z
      ·cases z
    have:=G A;have e:base+((l.length:Int) - ((l.filter fun e=>decide (num<e.1)).length:Int))+1=base+(((x::l).length:Int) - ((l.filter fun e=>decide (num<e.1)).length:Int)):=by
     simp only[H6];omega
    rw[e] at this;exact this
  ·cases h
theorem Fi{b:Bd}{n:Int}(h1:1<=n/\n<=32)(h2:0<=b.1/\b.1<=2147483647)(h3:b.2.2.1.length<=4)(h4:ZV n (-1) b.2.1=true)(h5:¬(b.2.2.2=true/\b.2.2.1.length>0))(h6:(b.2.2.1.length:Int)<=b.1)(h7:Gx n (b.1 - b.2.2.1.length+1) 0 b.2.2.1=true):uS b n=0:=by
 unfold uS;rw[XV (by omega),XV (by omega),YC ⟨h4,h5,h6,h7⟩]
theorem fh{b:Bd}{n:Int}(h:uS b n=0):Sm b:=by
 obtain⟨H,I,K,L,M,C,N,O,D⟩:=u1 h;have A:∀(l:List pV) (last:Int),-1<=last->ZV n last l=true->(l.length:Int)<=n - last - 1\/l=[]:=by
  intro l
  induction l with
  |nil=>intro _ _ _;exact .inr rfl
  |cons x l E=>
   intro last F h;simp only[ZV] at h;split at h
   ·cases h
   ·rename_i G;left;rcases E x.1 (by omega) h with u | u
    ·simp only[H6];omega
    ·subst u;simp only[H6,ak];omega
 have z:∀l:List pV,ZV n (-1) l=true->l.length<=1000000:=fun l h=>by
  rcases A l (-1) (by omega) h with u | u
  ·omega
  ·subst u;simp
 exact⟨z _ C,by omega,fun e B=>z _ (Md D e B)⟩
theorem NV{b:Bd}{n:Int}{p:pV}(h:uS b n=0)(hp:0<=p.1/\p.1<n):uS (b.1,X5 b.2.1 p,b.2.2.1,b.2.2.2) n=0:=by
 obtain⟨u,z,A,B,C,D,E,F,G⟩:=u1 h;exact Fi ⟨u,z⟩ ⟨A,B⟩ C (Vv hp D) E F G
theorem JE{b:Bd}{n num:Int}(h:uS b n=0)(_hn:0<=num/\num<=b.1):uS (b.1,b.2.1,b.2.2.1.filter (fun e=>decide (num<e.1)),if num=b.1 then false else b.2.2.2) n=0:=by
 obtain⟨A,B,C,D,E,F,G,K,H⟩:=u1 h;have z:=aCx (fun e:Ep=>decide (num<e.1)) b.2.2.1;refine Fi ⟨A,B⟩ ⟨C,D⟩ (ik z E) F ?_ (by simp only;omega) ?_
 ·rintro⟨u,I⟩;simp only at u I;split at u
  ·cases u
  ·exact G ⟨u,by omega⟩
 ·have:=Oa (num:=num) H;have e:b.1 - (b.2.2.1.length:Int)+1+((b.2.2.1.length:Int) - ((b.2.2.1.filter fun e=>decide (num<e.1)).length:Int))=b.1 - ((b.2.2.1.filter fun e=>decide (num<e.1)).length:Int)+1:=by omega
  rw[e] at this;exact this
def Ci(b:Bd):Bd:=if b.2.2.2=true then (b.1+1,[],b.2.2.1,b.2.2.2) else if b.2.2.1.length=4 then (b.1+1,[],[],true) else (b.1+1,[],b.2.2.1++[(b.1+1,b.2.1)],b.2.2.2)
theorem JF{b:Bd}{n:Int}(h:uS b n=0)(hn:b.1<2147483647):uS (Ci b) n=0:=by
 obtain⟨u,z,F,G,H,D,B,I,E⟩:=u1 h;unfold Ci;cases hbh:b.2.2.2 with
 |true=>
  have C:b.2.2.1=[]:=kt (by simp[hbh] at B;simp[B]);simp only[r7,C];exact Fi ⟨u,z⟩ (by simp only;omega) (by simp) rfl (by simp) (by simp;omega) rfl
 |false=>
  by_cases A:b.2.2.1.length=4
  ·simp only[V6,r5,A,r7];exact Fi ⟨u,z⟩ (by simp only;omega) (by simp) rfl (by simp) (by simp;omega) rfl
  ·simp only[V6,r5,A];refine Fi ⟨u,z⟩ (by simp only;omega) (by simp;omega) rfl (by simp) (by simp;omega) ?_;have e:b.1+1 - ((b.2.2.1++[(b.1+1,b.2.1)]).length:Int)+1=b.1 - (b.2.2.1.length:Int)+1:=(by simp;omega);simp only;rw[e];exact Nz E D (by simp only;omega)
theorem zk{b:Bd}{n:Int}(h:uS b n=0)(hn:b.1<2147483647):sB b n=some (Ci b,none):=by
 rw[NT b n (fh h),XV (by omega),XV (by omega)];unfold Ci;split
 ·rfl
 ·split<;>rfl
theorem aLl{b:Bd}{n:Int}{p:pV}(h:uS b n=0)(hp:0<=p.1/\p.1<n):uB b n p=some ((b.1,X5 b.2.1 p,b.2.2.1,b.2.2.2),none):=by
 rw[xh b n p (fh h),XV (by omega),XV (by omega)]
theorem NW{b:Bd}{n num:Int}(h:uS b n=0)(hn:0<=num/\num<=b.1):pS b n num=some ((b.1,b.2.1,b.2.2.1.filter (fun e=>decide (num<e.1)),if num=b.1 then false else b.2.2.2),none):=by
 rw[NU b n num (fh h),XV (by omega),XV (by omega)]
def Me(bs:List aR)(ps:List pV):List aR:=ps.foldl (fun bs p=>bs.set p.1.toNat p.2) bs
def Gz(l:List pV)(i:Nat):Option pV:=l.reverse.find? fun q=>q.1==(i:Int)
theorem ER(p:pV)(l:List pV)(i:Nat):Gz (p::l) i=(Gz l i).or (if p.1=(i:Int) then some p else none):=by
 unfold Gz;rw[List.reverse_cons,List.find?_append];congr 1;by_cases h:p.1=(i:Int)
 ·simp[h]
 ·simp[h]
theorem Rj(p:pV)(l:List pV)(i:Nat):Gz (l++[p]) i=if p.1=(i:Int) then some p else Gz l i:=by
 unfold Gz;rw[List.reverse_append];by_cases h:p.1=(i:Int)
 ·simp[h]
 ·simp[h]
theorem Tk:∀(l:List pV) (bs:List aR) (i:Nat),(∀p∈l,0<=p.1)->(Me bs l)[i]? =match Gz l i with | some p=>if i<bs.length then some p.2 else none | none=>bs[i]?
 | [],bs,i,_=>rfl
 |p::l,bs,i,h=>by
  have A:=h p (by simp);show (Me (bs.set p.1.toNat p.2) l)[i]? =_;rw[Tk l _ i fun q z=>h q (by simp[z]),ER];cases hg:Gz l i with
  |some q=>simp[hg]
  |none=>
   simp only[Option.none_or];by_cases u:p.1=(i:Int)
   ·have:p.1.toNat=i:=(by omega);rw[YC u,this,aCq];simp
   ·have:p.1.toNat≠i:=(by omega);rw[XV u,xi this]
theorem Rk{bs:List aR}{l l':List pV}(h:∀p∈l,0<=p.1)(h':∀p∈l',0<=p.1)(hg:∀i,Gz l i=Gz l' i):Me bs l=Me bs l':=by
 apply aCc;intro i;rw[Tk l bs i h,Tk l' bs i h',hg i]
theorem ES{n:Int}{l:List pV}{p:pV}(h:ZV n (-1) l=true)(i:Nat):Gz (X5 l p) i=Gz (l++[p]) i:=by
 obtain⟨E,A,rfl,C,D,_⟩:=Fh n p.1 l _ h;rw[Gy C D,Rj];unfold Gz;simp only[List.reverse_append,List.reverse_cons,List.find?_append];have B:((A.filter fun x=>decide (x.1≠p.1)).reverse.find? fun q=>q.1==(i:Int))=if p.1=(i:Int) then none else A.reverse.find? fun q=>q.1==(i:Int):=by
  rw[<-List.filter_reverse,List.find?_filter];split
  ·rename_i u;rw[List.find?_eq_none];intro x _;simp;omega
  ·rename_i u;congr 1;funext x;by_cases z:x.1=(i:Int)
   ·have:x.1≠p.1:=(by omega);simp[z];omega
   ·simp[z]
 rw[B];by_cases u:p.1=(i:Int)
 ·simp[u]
 ·simp[u]
def TO(A:List (Option pV))(i:Nat):Option pV:=(A[i]?).join
theorem Vx{A:List (Option pV)}(h:Rel A)(i:Nat):Gz (A.filterMap id) i=TO A i:=by
 unfold Gz TO;have E:∀q,(A.filterMap id).reverse.find? (fun q=>q.1==(i:Int))=some q->(A[i]?).join=some q:=by
  intro q u;have F:=List.find?_some u;have z:=List.mem_of_find?_eq_some u;rw[List.mem_reverse,aDi] at z;obtain⟨o,G,D⟩:=z;simp only[id_eq] at D;subst D;obtain⟨j,H,I⟩:=aEd G;have B:A[j]? =some (some q):=by rw[J0 H,I]
  have C:=h j q B;have:j=i:=by simp at F;omega
  subst this;rw[B];rfl
 cases u:(A.filterMap id).reverse.find? (fun q=>q.1==(i:Int)) with
 |some q=>rw[E q u]
 |none=>
  rw[List.find?_eq_none] at u;cases hA:A[i]? with
  |none=>rfl
  |some o=>
   cases o with
   |none=>rfl
   |some q=>
    have C:=h i q hA;exfalso;refine u q ?_ (by simp[C]);rw[List.mem_reverse,aDi];exact⟨some q,aB7 hA,rfl⟩
theorem NX{A:List (Option pV)}{p:pV}(h:p∈A.filterMap id):∃j:Nat,A[j]? =some (some p):=by
 obtain⟨o,z,u⟩:=aDi.1 h;simp only[id_eq] at u;subst u;obtain⟨j,B,C⟩:=aEd z;exact⟨j,by rw[J0 B,C]⟩
theorem Ob{A:List (Option pV)}(h:Rel A){p:pV}(hp:p∈A.filterMap id):0<=p.1/\p.1<(A.length:Int):=by
 obtain⟨j,u⟩:=NX hp;have:=h j p u;have z:=(aCb.1 u).1;omega
theorem NY{A:List (Option pV)}{p:pV}(h0:0<=p.1)(hl:p.1<(A.length:Int))(i:Nat):TO (Bv A p) i=if p.1=(i:Int) then some p else TO A i:=by
 unfold TO Bv;by_cases h:p.1=(i:Int)
 ·have:p.1.toNat=i:=by omega
  rw[YC h,this,aCq];have:i<A.length:=by omega
  simp[this]
 ·have:p.1.toNat≠i:=by omega
  rw[XV h,xi this]
theorem Vy{bs:List aR}:∀(ps:List pV) {A:List (Option pV)},Rel A->(∀p∈ps,0<=p.1/\p.1<(A.length:Int))->Me bs ((ps.foldl Bv A).filterMap id)=Me (Me bs (A.filterMap id)) ps/\Rel (ps.foldl Bv A)
 | [],_,h,_=>⟨rfl,h⟩
 |p::ps,A,h,C=>by
  have z:=C p (by simp);have B:=h.set z.1;obtain⟨D,E⟩:=Vy (bs:=bs) ps B fun q u=>by rw[show (Bv A p).length=A.length from aCs];exact C q (by simp[u])
  refine⟨?_,E⟩;show Me bs ((ps.foldl Bv (Bv A p)).filterMap id)=Me ((Me bs (A.filterMap id)).set p.1.toNat p.2) ps;rw[D];congr 1;have:(Me bs (A.filterMap id)).set p.1.toNat p.2=Me bs (A.filterMap id++[p]):=by unfold Me;rw[aC6];rfl
  rw[this];refine Rk (fun q u=>(Ob B u).1) (fun q u=>?_) fun i=>?_
  ·rcases S9.1 u with u | u
   ·exact(Ob h u).1
   ·simp at u;subst u;exact z.1
  ·rw[Vx B,NY z.1 z.2,Rj,Vx h]
def CF(snaps:List (List aR))(l:List Ep):Prop:=∀e∈l,1<=e.1/\Me (snaps.getD (e.1 - 1).toNat []) e.2=snaps.getD e.1.toNat []
theorem Vz{n base k:Int}{snaps:List (List aR)}(hn:n<=32)(hk:base - 1<=k)(hb:1<=base):∀(l:List Ep),Gx n base 0 l=true->CF snaps l->
  Me (snaps.getD k.toNat []) ((pW (List.replicate 32 none) k l).filterMap id)=snaps.getD (max k (base+l.length - 1)).toNat []/\Rel (pW (List.replicate 32 none) k l):=by
 have I:∀(l:List Ep) (i:Int) (e:Ep),Gx n base i (l++[e])=true->Gx n base i l=true/\ZV n (-1) e.2=true/\e.1=base+i+l.length:=by
  intro l
  induction l with
  |nil=>
   intro i e h;simp only[Z1,Gx] at h;split at h
   ·rename_i u;exact⟨rfl,u.1,by simpa using u.2⟩
   ·cases h
  |cons x l F=>
   intro i e h;simp only[fy,Gx] at h ⊢;split at h
   ·rename_i u;obtain⟨A,B,T⟩:=F (i+1) e h;rw[YC u];exact⟨A,B,by rw[T];simp only[H6];omega⟩
   ·cases h
 have K:∀(m:Nat) (l:List Ep),l.length=m->Gx n base 0 l=true->CF snaps l->
  Me (snaps.getD k.toNat []) ((pW (List.replicate 32 none) k l).filterMap id)=snaps.getD (max k (base+l.length - 1)).toNat []/\Rel (pW (List.replicate 32 none) k l):=by
  intro m
  induction m with
  |zero=>
   intro l z _ _;have:=kt z;subst this;refine⟨?_,fun j p E=>?_⟩
   ·have:(pW (List.replicate 32 (none:Option pV)) k []).filterMap id=[]:=(by simp[pW,List.filterMap_replicate]);rw[this];have:max k (base+(([]:List Ep).length:Int) - 1)=k:=(by simp only[ak];omega);rw[this];rfl
   ·simp only[pW,List.foldl_nil,aDw] at E;split at E<;>cases E
  |succ m F=>
   intro l z H C;rcases List.eq_nil_or_concat l with rfl |⟨q,e,rfl⟩
   ·simp at z
   rw[List.concat_eq_append] at z H C ⊢;obtain⟨u,D,h3⟩:=I q 0 e H;obtain⟨A,B⟩:=F q (by simp at z;exact z) u fun Q R=>C Q (by simp[R]);obtain⟨c1,U⟩:=C e (by simp);have L:((q++[e]).length:Int)=q.length+1:=(by simp);have M:pW (List.replicate 32 none) k (q++[e])=if k<e.1 then e.2.foldl Bv (pW (List.replicate 32 none) k q) else pW (List.replicate 32 none) k q:=by simp[pW]
   rw[M,L];by_cases G:k<e.1
   ·rw[YC G];have N:=j0 n e.2 _ D;have aa:(pW (List.replicate 32 (none:Option pV)) k q).length=32:=(by rw[Bw];simp);obtain⟨V,X⟩:=Vy (bs:=snaps.getD k.toNat []) e.2 B fun p S=>by have:=N p S;omega
    refine⟨?_,X⟩;rw[V,A];have O:max k (base+(q.length:Int) - 1)=e.1 - 1:=(by omega);have P:max k (base+((q.length:Int)+1) - 1)=e.1:=(by omega);rw[O,P,U]
   ·rw[XV G];refine⟨?_,B⟩;rw[A];congr 2;omega
 intro l u D;exact K l.length l rfl u D
theorem uT{A:Type}{l:List A}{x d:A}{i:Nat}(h:i<l.length):(l++[x]).getD i d=l.getD i d:=by
 rw[V7,V7,aBu h]
theorem Fj{A:Type}{l:List A}{x d:A}{i:Nat}(h:i=l.length):(l++[x]).getD i d=x:=by
 subst h;rw[V7];simp
theorem Zl{n k:Int}{l:List Ep}(h:∀e∈l,ZV n (-1) e.2=true){j:Nat}{p:pV}(hp:(pW (List.replicate 32 none) k l)[j]? =some (some p)):0<=p.1/\p.1<n:=by
 have E:∀(q:List pV) (A:List (Option pV)),(∀x∈q,0<=x.1/\x.1<n)->(∀(j:Nat) (p:pV),A[j]? =some (some p)->0<=p.1/\p.1<n)->∀(j:Nat) (p:pV),(q.foldl Bv A)[j]? =some (some p)->0<=p.1/\p.1<n:=by
  intro q
  induction q with
  |nil=>intro A _ h;exact h
  |cons x q C=>
   intro A B z;refine C _ (fun y G=>B y (by simp[G])) fun j p u=>?_;unfold Bv at u;rw[aCq] at u;split at u
   ·split at u
    ·cases u;exact B _ (by simp)
    ·cases u
   ·exact z j p u
 have F:∀(l:List Ep) (A:List (Option pV)),(∀e∈l,ZV n (-1) e.2=true)->(∀(j:Nat) (p:pV),A[j]? =some (some p)->0<=p.1/\p.1<n)->∀(j:Nat) (p:pV),(pW A k l)[j]? =some (some p)->0<=p.1/\p.1<n:=by
  intro l
  induction l with
  |nil=>intro A _ z;exact z
  |cons e l C=>
   intro A D z;refine C _ (fun H I=>D H (by simp[I])) fun j p u=>?_;simp only at u;split at u
   ·exact E e.2 A (fun x B=>by have:=j0 n e.2 _ (D e (by simp)) x B;omega) z j p u
   ·exact z j p u
 exact F l _ h (fun j p u=>by rw[aDw] at u;split at u<;>cases u) j p hp
end Go.A6
namespace Go.p6
open Go.Pl
open Go Go.Sw Go.Mo
theorem JG(l:List aR)(b:aR)(h:l.length<=1000000):Dr l b=some (if b∈l then ((l.idxOf b:Nat):Int) else -1):=by
 unfold Dr;rw[show (0:Int)=((0:Nat):Int) from rfl,Bs (l:=l) (fun i (_:Unit)=>(i:Int)) () (fun i z _=>if z=b then .done (.ret (i:Int)) else .next ()) (fun _=> .XT ()) (by unfold fL;omega)]
 ·have:∀(l:List aR) (i:Nat),tC (fun (i:Nat) (z:aR) (_:Unit)=>(if z=b then Step.done (Ex.ret (i:Int)) else .next ():Step Unit (Ex Unit Int))) (fun _=> .XT ()) i () l=if b∈l then .ret ((i+l.idxOf b:Nat):Int) else .XT ():=by
   intro l;induction l with
   |nil=>intro i;simp[tC]
   |cons x l C=>
    intro i;simp only[tC];by_cases u:x=b
    ·subst u;simp
    ·have A:¬b=x:=fun h=>u h.symm;rw[XV u];simp only[C,B1,A,false_or,List.idxOf_cons];have:(x==b)=false:=(by simp[u]);rw[this];simp only[pF];split<;>simp<;>omega
  rw[this];split<;>simp[out]
 ·rintro B x D acc rfl;simp only[pU,YX,nD,cM,Jh,IP (n:=B.length) (m:=1000000) (by simp at h;omega) (by omega)];by_cases u:x=b<;>simp[u,Jh]
 ·intro _;simp[dV]
theorem Rl(pre:List aR)(z:aR):fR (pre.map fun x=>(x,true)) z=if z∈pre then some true else none:=by
 induction pre with
 |nil=>simp[fR]
 |cons x pre A=>
  simp only[L4,fR,A,B1];by_cases u:x=z
  ·simp[u]
  ·have:¬z=x:=fun h=>u h.symm;simp[u,this]
theorem o8(l:List aR)(h:l.length<=1000000):qK l=some (if l.length>8 then some 2 else if l.Nodup then none else some 3):=by
 unfold qK;by_cases E:l.length>8
 ·have:cm .gtr (l.length:Int) 8=true:=by simp[cm];omega
  rw[this];simp[E]
 have:cm .gtr (l.length:Int) 8=false:=by simp[cm];omega
 rw[this,XV E];simp only[pF];rw[show ((0:Int),([]:List (aR×Bool)))=(((0:Nat):Int),(l.take 0).map fun x=>(x,true)) from rfl,Bs (l:=l) (fun i (_:Unit)=>((i:Int),(l.take i).map fun x=>(x,true))) () (fun i z _=>if z∈l.take i then .done (.ret (some 3)) else .next ()) (fun _=> .XT ()) (by unfold fL;omega)]
 ·have:∀(u pre:List aR),l=pre++u->pre.Nodup->tC (fun (i:Nat) (z:aR) (_:Unit)=>(if z∈l.take i then Step.done (Ex.ret (some 3)) else .next ():Step Unit (Ex Unit (Option Int)))) (fun _=> .XT ()) pre.length () u=if l.Nodup then .XT () else .ret (some 3):=by
   intro u;induction u with
   |nil=>intro pre B D;rw[cw] at B;subst B;simp[tC,D]
   |cons x u K=>
    intro pre B D;simp only[tC];have C:l.take pre.length=pre:=(by rw[B];simp);rw[C];by_cases A:x∈pre
    ·rw[YC A];have:¬l.Nodup:=(by rw[B,List.nodup_append];rintro⟨_,_,I⟩;exact I x A x (by simp) rfl);simp[this]
    ·rw[XV A];have:=K (pre++[x]) (by rw[B];simp) (by rw[List.nodup_append];exact⟨D,by simp,fun a H b F=>by simp at F;subst F;rintro rfl;exact A H⟩);simpa using this
  have:=this l [] rfl (by simp);simp only[ak] at this;rw[this];split<;>simp[out]
 ·rintro pre x u acc rfl;have C:(pre++x::u).take pre.length=pre:=by simp
  simp only[pU,YX,nD,cM,C,Rl,Jh,IP (n:=pre.length) (m:=1000000) (by simp at h;omega) (by omega)];by_cases A:x∈pre
  ·simp[A,Jh]
  ·have G:(pre++x::u).take (pre.length+1)=pre++[x]:=(by rw[List.take_append];simp[aCa]);simp only[A,r5,aEw,pF,Hr,Rl,cM,Jh,G];simp
 ·intro _;simp[dV]
abbrev w7:=Int×Int×Int×aR
def Tl(h:List aR):Int:=if h.length>8 then 2 else if h.Nodup then 0 else 3
def ZT(e h:List aR):Int:=if e.length<1\/e.length>32 then 1 else Tl h
def opt(n:Int):Option Int:=if n=0 then none else some n
theorem Oc(l:List aR)(h:l.length<=1000000):qK l=some (opt (Tl l)):=by
 rw[o8 l h];unfold Tl opt;by_cases u:l.length>8
 ·simp[u]
 by_cases z:l.Nodup<;>simp[u,z]
theorem Od(e h:List aR)(hh:h.length<=1000000):oG e h=some (opt (ZT e h)):=by
 unfold oG ZT;simp only[cl,cg,Oc h hh];by_cases u:e.length<1
 ·have:(e.length:Int)<1:=by omega
  simp[u,this,opt]
 by_cases B:e.length>32
 ·have z:¬(e.length:Int)<1:=by omega
  have A:(e.length:Int)>32:=by omega
  simp[u,B,z,A,opt]
 have z:¬(e.length:Int)<1:=by omega
 have A:¬(e.length:Int)>32:=by omega
 simp[u,B,z,A]
def Py(n prev:Int)(x:w7):Bool:=decide (x.1<=prev) || decide (x.1>=n) || decide (x.2.1<0) || decide (x.2.1>3)
def goes(n:Int):Int->List w7->Bool
 |_,[]=>true
 |prev,x::l=> !Py n prev x && goes n x.1 l
theorem NZ(n prev:Int)(x:w7){γ:Type}(k:Bool->Option γ):((bif (cm .leq x.1 prev) then
  some true
  else
   bif (cm .geq x.1 n) then
    some true
   else
    bif (cm .lss x.2.1 (0:Int)) then
     some true
    else
     some (cm .gtr x.2.1 (3:Int))).bind k)=k (Py n prev x):=by
 simp only[cle,O6,cl,cg];unfold Py;by_cases h:x.1<=prev
 ·simp[h]
 by_cases u:x.1>=n
 ·simp[h,u]
 by_cases z:x.2.1<0
 ·simp[h,u,z]
 simp[h,u,z]
theorem Rm{n:Int}:∀{l:List w7} {prev:Int},goes n prev l=true->∀x∈l,0<=x.2.1/\x.2.1<=3
 | [],_,_,x,u=>by simp at u
 |y::l,prev,h,x,u=>by
  simp only[goes,K0,tu] at h;rcases B1.1 u with rfl | u
  ·have:=h.1;unfold Py at this;simp at this;omega
  ·exact Rm h.2 x u
def Wa(w n:Int)(l:List w7):Int:=if w=0 then (if goes n (-1) l then 0 else 1) else w
theorem JH{γ:Type}(l:List w7)(n:Int)(z:γ)(hl:l.length<=1000000)(k:Unit->Option γ):
  lp (β:=Unit) (fun (S7:Int×Int)=>
    bif (cm .lss S7.2 (l.length:Int)) then
     (Sw.idx l S7.2).bind fun gb=>
      (bif (cm .leq gb.1 S7.1) then
       some true
      else
       bif (cm .geq gb.1 n) then
        some true
       else
        bif (cm .lss gb.2.1 (0:Int)) then
         some true
        else
         some (cm .gtr gb.2.1 (3:Int))).bind fun lv=>
       bif lv then
        some (.done (.ret z))
       else
        some (.next (gb.1,(ar .add .i64 S7.2 (1:Int))))
    else
     some (.done (.XT ()))
    ) ((-1:Int),(0:Int)) k=if goes n (-1) l then k () else some z:=by
 refine(Bs (l:=l) (fun i (acc:Int)=>(acc,(i:Int))) (-1:Int) (fun _ x acc=>if Py n acc x then .done (.ret z) else .next x.1) (fun _=> .XT ()) (Gu hl (by decide)) ?_ ?_).trans ?_
 ·intro B x C acc h;simp only[kR h,YX,kF h,cM,NZ];by_cases u:Py n acc x=true
  ·simp[u,Jh]
  ·simp only[xk] at u;rw[C2 (by rw[h] at hl;simp at hl;omega)];simp[u,Jh]
 ·intro acc;simp only[dV,pF]
 ·have:∀(l:List w7) (i:Nat) (prev:Int),tC (fun (_:Nat) (x:w7) (acc:Int)=>(if Py n acc x then .done (.ret z) else .next x.1:Step Int (Ex Unit γ))) (fun _=> .XT ()) i prev l=if goes n prev l then .XT () else .ret z:=by
   intro l
   induction l with
   |nil=>intro i prev;simp[tC,goes]
   |cons x l A=>
    intro i prev;simp only[tC];by_cases u:Py n prev x=true
    ·simp[u,goes]
    ·simp only[xk] at u;simp[u,goes,A]
  rw[this];by_cases g:goes n (-1) l=true<;>simp[g,out]
def Ai(x:w7)(e h:List aR):aR×Bool:=
 if x.2.1=0 then (aQ,true) else if x.2.1=3 then (x.2.2.2,true) else
  let l:=if x.2.1=2 then h else e
  if x.2.2.1<0\/x.2.2.1>=l.length then (aQ,false) else (l.getD x.2.2.1.toNat [],true)
theorem JI(l:List aR)(n:Int):((bif (cm .lss n (0:Int)) then
  some true
        else
         some (cm .geq n (l.length:Int))).bind fun x5=>
         bif x5 then
          some (aQ,false)
         else
          (Sw.idx l n).bind fun z8=>
           some (z8,true))=some (if n<0\/n>=l.length then (aQ,false) else (l.getD n.toNat [],true)):=by
 rw[cl,O6];by_cases h:n<0
 ·simp[h]
 by_cases u:n>=l.length
 ·simp[h,u]
 have z:n.toNat<l.length:=by omega
 have:Sw.idx l n=some (l.getD n.toNat []):=by unfold Sw.idx;rw[YC (by omega)];simp[V7,J0 z]
 simp only[h,u,H3,pF,cM,this,aE1,r5]
theorem QZ(l:List aR)(n:Int):tT l n=some (if n<0\/n>=l.length then (aQ,false) else (l.getD n.toNat [],true)):=JI l n
def Tm(e h:List aR)(x:w7)(acc:List (Int×aR)×List Int):List (Int×aR)×List Int:=
 if (Ai x e h).2 then (acc.1++[(x.1,(Ai x e h).1)],acc.2) else (acc.1,acc.2++[x.1])
def ZJ(e h:List aR)(l:List w7):List (Int×aR)×List Int:=(l.zipIdx).foldl (fun acc x=>Tm e h x.1 acc) ([],[])
theorem JJ(e h:List aR)(x:w7)(acc:List (Int×aR)×List Int):(Tm e h x acc).1.length+(Tm e h x acc).2.length=acc.1.length+acc.2.length+1:=by
 unfold Tm;split<;>simp<;>omega
theorem JK{γ:Type}(e h:List aR)(x:w7)(acc:List (Int×aR)×List Int)(ha:acc.1.length+acc.2.length<=1000000)(k:List (Int×aR)×List Int->Option γ)(v:aR×Bool)(hv:v=Ai x e h):
  (bif v.2 then (Sw.app acc.1 ([(x.1,v.1)]:(List (Int×aR)))).bind fun aWx=>k (aWx,acc.2) else (Sw.app acc.2 ([x.1]:(List Int))).bind fun aIg=>k (acc.1,aIg))=k (Tm e h x acc):=by
 subst hv;unfold Tm;rw[WV _ _ (by simp;omega),WV _ _ (by simp;omega)];by_cases c:(Ai x e h).2=true
 ·simp[c]
 ·simp only[xk] at c;simp[c]
theorem Wb(l:List w7)(e h:List aR)(hl:l.length<=1000)(hk:∀x∈l,0<=x.2.1/\x.2.1<=3){γ:Type}(k:List (Int×aR)×List Int->Option γ):
  lp (β:=(List (Int×aR))×(List Int)) (fun (dv:Int×(List (Int×aR))×(List Int))=>
    bif (cm .lss dv.1 (l.length:Int)) then
     (Sw.idx l dv.1).bind fun X2=>
      bif (cm .eql X2.2.1 (1:Int)) then
       (tT e X2.2.2.1).bind fun aN9=>
        bif aN9.2 then
         (Sw.app dv.2.1 ([(X2.1,aN9.1)]:(List (Int×aR)))).bind fun zh=>
          some (.next ((ar .add .i64 dv.1 (1:Int)),zh,dv.2.2))
        else
         (Sw.app dv.2.2 ([X2.1]:(List Int))).bind fun J4=>
          some (.next ((ar .add .i64 dv.1 (1:Int)),dv.2.1,J4))
      else
       bif (cm .eql X2.2.1 (2:Int)) then
        (tT h X2.2.2.1).bind fun uh=>
         bif uh.2 then
          (Sw.app dv.2.1 ([(X2.1,uh.1)]:(List (Int×aR)))).bind fun zg=>
           some (.next ((ar .add .i64 dv.1 (1:Int)),zg,dv.2.2))
         else
          (Sw.app dv.2.2 ([X2.1]:(List Int))).bind fun aIg=>
           some (.next ((ar .add .i64 dv.1 (1:Int)),dv.2.1,aIg))
       else
        bif (cm .eql X2.2.1 (3:Int)) then
         (Sw.app dv.2.1 ([(X2.1,X2.2.2.2)]:(List (Int×aR)))).bind fun aWw=>
          some (.next ((ar .add .i64 dv.1 (1:Int)),aWw,dv.2.2))
        else
         (Sw.app dv.2.1 ([(X2.1,aQ)]:(List (Int×aR)))).bind fun aWv=>
          some (.next ((ar .add .i64 dv.1 (1:Int)),aWv,dv.2.2))
    else
     some (.done (.XT (dv.2.1,dv.2.2)))
    ) ((0:Int),([]:(List (Int×aR))),([]:(List Int))) k=k (ZJ e h l):=by
 refine(I0 (l:=l) (fun i (acc:List (Int×aR)×List Int)=>((i:Int),acc.1,acc.2)) (fun i acc=>acc.1.length+acc.2.length=i) ([],[]) (fun _ x acc=>Tm e h x acc) id (Gu (n:=1000) hl (by decide)) rfl ?_ ?_).trans ?_
 ·intro D x K acc B F;have H:D.length<=1000:=by rw[B] at hl;simp at hl;omega
  have I:=hk x (by rw[B];simp);refine⟨?_,by rw[JJ,F]⟩;simp only[kR B,YX,ce,cM,kF B,QZ];rw[C2 (by omega)];have z:=fun v G=>JK e h x acc (by omega) (fun a=>(some (.next (((D.length+1:Nat):Int),a.1,a.2)):Option (Step (Int×(List (Int×aR))×(List Int)) (Ex ((List (Int×aR))×(List Int)) γ)))) v G;by_cases u:x.2.1=1
  ·have:=z (if x.2.2.1<0\/x.2.2.1>=e.length then (aQ,false) else (e.getD x.2.2.1.toNat [],true)) (by unfold Ai;simp[u]);simp only[u,fw,YX];exact this
  by_cases A:x.2.1=2
  ·have:=z (if x.2.2.1<0\/x.2.2.1>=h.length then (aQ,false) else (h.getD x.2.2.1.toNat [],true)) (by unfold Ai;simp[A]);simp only[u,A,fw,H3,YX,pF];exact this
  by_cases C:x.2.1=3
  ·have:=z (x.2.2.2,true) (by unfold Ai;simp[C]);simp only[u,A,C,fw,H3,YX,pF];exact this
  ·have E:x.2.1=0:=(by omega);have:=z (aQ,true) (by unfold Ai;simp[E]);simp only[u,A,C,H3,pF];exact this
 ·intro acc _;simp only[dV,pF];rfl
 ·rfl
theorem JL(l:List w7)(e h:List aR)(hl:l.length<=1000)(hh:h.length<=1000000):pR l e h=some (if Wa (ZT e h) e.length l=0 then ((ZJ e h l).1,(ZJ e h l).2,none) else ([],[],some (Wa (ZT e h) e.length l))):=by
 unfold pR;rw[Od e h hh,cM];unfold Wa;by_cases u:ZT e h=0
 ·simp only[u,opt,r7,p7,pF];rw[JH l _ _ (by omega)];by_cases g:goes e.length (-1) l=true
  ·simp only[g,r7];rw[Wb l e h hl (Rm g)]
  ·simp[g]
 ·simp[u,opt]
theorem CG{α:Type}[DecidableEq α]{k:α}:∀{l:List α},kp l k=none->k∉l
 | [],_=>by simp
 |a::l,h=>by
  simp only[kp] at h;split at h
  ·cases h
  ·rename_i u;cases hr:kp l k with
   |none=>have:=CG hr;simp only[B1,not_or];exact⟨fun e=>u e.symm,this⟩
   |some j=>rw[hr] at h;cases h
theorem Rn{α β:Type}[DecidableEq α]{k:α}:∀{m:List (α×β)},k∉m.map (·.1)->fR m k=none
 | [],_=>rfl
 | (a,b)::m,h=>by
  simp only[L4,B1,not_or] at h;simp only[fR,XV (fun e=>h.1 (Eq.symm e))];exact Rn h.2
theorem Kz{α β:Type}[DecidableEq α]{k:α}{v:β}{b:α}:∀{m:List (α×β)},k∉m.map (·.1)->fR (m++[(k,v)]) b=if b=k then some v else fR m b
 | [],_=>by simp only[Z1,fR];by_cases h:k=b<;>simp[h];intro e;exact(h e.symm).elim
 | (a,c)::m,h=>by
  simp only[L4,B1,not_or] at h;simp only[fy,fR,Kz h.2];by_cases u:a=b
  ·subst u;rw[YC rfl,YC rfl,XV (fun e=>h.1 e.symm)]
  ·simp[u]
theorem Ro{α β:Type}[DecidableEq α]{k:α}{v:β}{b:α}:∀{m:List (α×β)} {q:Nat},kp (m.map (·.1)) k=some q->fR (wO m q v) b=if b=k then some v else fR m b
 | [],q,h=>by simp[kp] at h
 | (a,c)::m,q,h=>by
  simp only[L4,kp] at h;split at h
  ·rename_i z;cases h;subst z;simp only[wO,List.modify_zero_cons,fR];by_cases u:a=b
   ·simp[u]
   ·have:¬b=a:=fun e=>u e.symm;simp[u,this]
  ·rename_i z;cases hr:kp (m.map (·.1)) k with
   |none=>rw[hr] at h;cases h
   |some j=>
    rw[hr] at h;cases h;have:=Ro (v:=v) (b:=b) hr;simp only[wO] at this;simp only[wO,List.modify_succ_cons,fR,this];by_cases u:a=b
    ·subst u;simp[z]
    ·simp[u]
theorem OA{κ α:Type}[DecidableEq κ](m:List (κ×List α))(k:κ)(hm:m.length<=140737488355328):
  ∃r,Td m k=some r/\r.2.2=(fR m k).getD []/\(∀v b,fR (wO r.1 r.2.1 v) b=if b=k then some v else fR m b)/\∀v,(wO r.1 r.2.1 v).length<=m.length+1:=by
 unfold Td;rw[YC hm];cases hk:kp (m.map (·.1)) k with
 |none=>
  have u:=CG hk;refine⟨_,rfl,by rw[Rn u];rfl,fun v b=>?_,fun v=>?_⟩
  ·have:wO (m++[(k,[])]) m.length v=m++[(k,v)]:=by
    apply aCc;intro i;simp only[wO,aB6];rcases Nat.lt_trichotomy i m.length with h | h | h
    ·rw[aBu h,aBu h];have:¬m.length=i:=by omega
     simp[this]
    ·subst h;simp
    ·rw[dc (by simp;omega),dc (by simp;omega)];rfl
   simp only[this];exact Kz u
  ·simp[wO]
 |some q=>
  refine⟨_,rfl,?_,fun v b=>Ro hk,fun v=>by simp[wO]⟩;rw[BR,hk];rfl
structure dn (l:List aR) (M:List (aR×List Int)):Prop where
 none:∀b,b∉l->fR M b=Option.none
 some:∀b,b∈l->∃t,fR M b=Option.some (((l.idxOf b:Nat):Int)::t)/\t.length<=l.length
 len:M.length<=l.length
theorem B2(l:List aR)(h:l.length<=1000000):aP l=some l:=by
 unfold aP;rw[WV _ _ (by simp;omega)];rfl
theorem dn.add{l:List aR}{M M':List (aR×List Int)}{x:aR}(h:dn l M)(hg:∀b,fR M' b=if b=x then Option.some ((fR M x).getD []++[(l.length:Int)]) else fR M b)(hlen:M'.length<=M.length+1):dn (l++[x]) M':=by
 refine⟨fun b z=>?_,fun b z=>?_,by have:=h.len;simp;omega⟩
 ·simp only[S9,aB9,not_or] at z;rw[hg,XV z.2,h.none b z.1]
 ·rw[hg];by_cases A:b=x
  ·subst A;rw[YC rfl,List.idxOf_append];by_cases u:b∈l
   ·obtain⟨t,B,C⟩:=h.some b u;rw[B,YC u];exact⟨t++[(l.length:Int)],by simp,by simp;omega⟩
   ·rw[h.none b u,XV u];exact⟨[],by simp,by simp⟩
  ·have u:b∈l:=by
    rcases S9.1 z with h | h
    ·exact h
    ·exact(A (by simpa using h)).elim
   rw[XV A,List.idxOf_append,YC u];obtain⟨t,B,C⟩:=h.some b u;exact⟨t,B,by simp;omega⟩
theorem Wc(l:List aR)(h1:1<=l.length)(h2:l.length<=32):∃M,dn l M/\wG l=some (some (l,M),none):=by
 unfold wG;have E:cm .lss (l.length:Int) 1=false:=by rw[cl];simp;omega
 have F:cm .gtr (l.length:Int) 32=false:=by rw[cg];simp;omega
 simp only[E,pF,F,cM,B2 l (by omega)];have G:((0:Int),([]:List (aR×List Int)))=(fun (i:Nat) (acc:List (aR×List Int))=>((i:Int),acc)) 0 []:=rfl;rw[G]
 obtain⟨M,O,P⟩:=IV (l:=l) (k:=fun I=>some (some (l,I),(none:Option Int))) (step:=fun (u:Int×(List (aR×(List Int))))=>
        bif (cm .lss u.1 (l.length:Int)) then
         (Sw.idx l u.1).bind fun K=>
          (Td u.2 K).bind fun B=>
           (Sw.app B.2.2 ([u.1]:(List Int))).bind fun L=>
            some (.next ((ar .add .i64 u.1 (1:Int)),wO B.1 B.2.1 L))
        else
         some (.done (.XT u.2))) (fun (i:Nat) (acc:List (aR×List Int))=>((i:Int),acc)) (fun h acc=>dn h acc) (fun acc=>acc) [] (by unfold fL;omega) ⟨fun b _=>rfl,fun b N=>by simp at N,ZY _⟩ (by
   intro h x V acc A z;have U:h.length<32:=(by rw[A] at h2;simp at h2;omega);obtain⟨r,Q,D,R,S⟩:=OA acc x (by have:=z.len;omega);have H:r.2.2.length+1<=4294967296:=by
    rw[D];by_cases C:x∈h
    ·obtain⟨t,T,X⟩:=z.some x C;rw[T];simp;omega
    ·rw[z.none x C];simp
   refine⟨wO r.1 r.2.1 (r.2.2++[(h.length:Int)]),?_,z.add (fun b=>?_) (S _)⟩
   ·simp only[kR A,YX,kF A,cM,Q,WV _ [(h.length:Int)] (by simpa using H)];rw[C2 (by omega)]
   ·rw[R,D]) (by
   intro acc z
   simp only[dV,pF])
 exact⟨M,O,P⟩
theorem Ii{l l':List aR}{M:List (aR×List Int)}(h:dn l M)(b:aR):mC (some (l',M)) b=some (if b∈l then (((l.idxOf b:Nat):Int),true) else (0,false)):=by
 unfold mC;simp only[cM];by_cases u:b∈l
 ·obtain⟨t,z,_⟩:=h.some b u;rw[z,YC u];have:cm .eql (((some (((l.idxOf b:Nat):Int)::t)).getD []).length:Int) 0=false:=by rw[ce];simp;omega
  rw[this];simp[Sw.idx]
 ·rw[h.none b u,XV u];simp[ce]
theorem JN(l:List aR)(b:aR)(h:l.length<=1000000):eO l b=some (if b∈l then ((l.idxOf b:Nat):Int) else -1):=by
 rw[<-JG l b h];unfold eO Dr;have:∀z:aR,decide (b=z)=decide (z=b):=fun z=>by by_cases h:b=z<;>simp[h];intro e;exact(h e.symm).elim
 simp only[this]
theorem Ij(l:List aR)(b:aR)(h:l.length<=1000000):uQ l b=some (if b∈l then (((l.idxOf b:Nat):Int),true) else (0,false)):=by
 unfold uQ;rw[JN l b h,cM];by_cases u:b∈l
 ·simp only[u,r7,O6];congr 2<;>simp
 ·simp[u,O6];decide
abbrev Pt:=Int×aR
def Uj(p:Pt)(peer ZS:List aR):w7:=
 if p.2=aQ then (p.1,0,0,aQ) else if p.2∈peer then (p.1,1,((peer.idxOf p.2:Nat):Int),aQ) else if p.2∈ZS then (p.1,2,((ZS.idxOf p.2:Nat):Int),aQ) else (p.1,3,0,p.2)
def same(p:Pt)(peer:List aR):Bool:=decide (peer[p.1.toNat]? =some p.2)
def l7(ZJ:List Pt)(peer ZS:List aR):List w7:=(ZJ.filter fun p=> !same p peer).map fun p=>Uj p peer ZS
theorem OB{γ:Type}{peer oy ZS:List aR}{M:List (aR×List Int)}(h:dn peer M)(hh:ZS.length<=1000000)(p:Pt)(acc:List w7)(ha:acc.length<=1000000)(k:List w7->Option γ):
  lp (β:=(List (Int×Int×Int×aR))) (fun (eo:Int)=>
    bif (cm .lss eo (([(.inl ():lW),(.inr (.inl (some (oy,M))):lW),(.inr (.inr (.inl ZS)):lW),(.inr (.inr (.inr (.inl ()))):lW)]:(List lW)).length:Int)) then
     (Sw.idx ([(.inl ():lW),(.inr (.inl (some (oy,M))):lW),(.inr (.inr (.inl ZS)):lW),(.inr (.inr (.inr (.inl ()))):lW)]:(List lW)) eo).bind fun yj=>
      (jK yj p).bind fun qg=>
       bif qg.2 then
        (Sw.app acc ([qg.1]:(List (Int×Int×Int×aR)))).bind fun zf=>
         some (.done (.XT zf))
       else
        some (.next (ar .add .i64 eo (1:Int)))
    else
     some (.done (.XT acc))
    ) (0:Int) k=k (acc++[Uj p peer ZS]):=by
 obtain⟨z,A⟩:∃z,z=([(.inl ():lW),(.inr (.inl (some (oy,M))):lW),(.inr (.inr (.inl ZS)):lW),(.inr (.inr (.inr (.inl ()))):lW)]:(List lW)):=⟨_,rfl⟩;rw[<-A];have D:∀w∈z,∃v,jK w p=some v:=by
  intro w F;rw[A] at F;simp only[B1,aCm,aEl] at F;rcases F with rfl | rfl | rfl | rfl
  ·exact⟨_,rfl⟩
  ·exact⟨_,by simp only[jK,oH,Ii h,cM];rfl⟩
  ·exact⟨_,by simp only[jK,mD,Ij ZS _ hh,cM];rfl⟩
  ·exact⟨_,rfl⟩
 have H:∀q:w7,Sw.app acc [q]=some (acc++[q]):=fun q=>WV acc [q] (by simp;omega);rw[show (0:Int)=(fun (i:Nat) (_:Unit)=>(i:Int)) 0 () from rfl,Bs (l:=z) (fun (i:Nat) (_:Unit)=>(i:Int)) () (fun _ w _=>match jK w p with | some v=>if v.2=true then .done (.XT (acc++[v.1])) else .next () | none=> .next ()) (fun _=> .XT acc) (by rw[A];unfold fL;simp)]
 ·have I:jK (.inl ()) p=some ((p.1,0,0,aQ),decide (p.2=aQ)):=rfl;have K:jK (.inr (.inl (some (oy,M)))) p=some ((p.1,1,(if p.2∈peer then (((peer.idxOf p.2:Nat):Int),true) else (0,false)).1,aQ),(if p.2∈peer then (((peer.idxOf p.2:Nat):Int),true) else (0,false)).2):=by
   simp only[jK,oH,Ii h,cM]
  have L:jK (.inr (.inr (.inl ZS))) p=some ((p.1,2,(if p.2∈ZS then (((ZS.idxOf p.2:Nat):Int),true) else (0,false)).1,aQ),(if p.2∈ZS then (((ZS.idxOf p.2:Nat):Int),true) else (0,false)).2):=by
   simp only[jK,mD,Ij ZS _ hh,cM]
  have N:jK (.inr (.inr (.inr (.inl ())))) p=some ((p.1,3,0,p.2),true):=rfl;rw[A];simp only[tC,I,K,L,N];unfold Uj;by_cases B:p.2=aQ
  ·simp[B,out]
  by_cases E:p.2∈peer
  ·simp[B,E,out]
  by_cases G:p.2∈ZS
  ·simp[B,E,G,out]
  ·simp[B,E,G,out]
 ·intro O x Q u C;obtain⟨v,D⟩:=D x (by rw[C];simp);have P:O.length<=4:=by
   have:z.length=4:=(by rw[A];rfl);rw[C] at this;simp at this;omega
  simp only[kR C,YX,kF C,cM,D,H];cases n5:v.2 with
  |true=>simp[Jh]
  |false=>simp only[pF,V6,r5,Jh];rw[C2 (by omega)]
 ·intro u;simp only[dV,pF]
def V4(n prev:Int)(x:Pt):Bool:=decide (x.1<=prev) || decide (x.1>=n)
def w9(n:Int):Int->List Pt->Bool
 |_,[]=>true
 |prev,x::l=> !V4 n prev x && w9 n x.1 l
theorem P8{n:Int}:∀{l:List Pt} {prev:Int},w9 n prev l=true->∀x∈l,prev<x.1/\x.1<n
 | [],_,_,x,u=>by simp at u
 |y::l,prev,h,x,u=>by
  simp only[w9,K0,tu] at h;have z:=h.1;unfold V4 at z;simp at z;rcases B1.1 u with rfl | u
  ·omega
  ·have:=P8 h.2 x u;omega
theorem JP{γ:Type}(l:List Pt)(n:Int)(z:γ)(hl:l.length<=1000000)(k:Unit->Option γ):
  lp (β:=Unit) (fun (lh:Int×Int)=>
    bif (cm .lss lh.2 (l.length:Int)) then
     (Sw.idx l lh.2).bind fun lg=>
      (bif (cm .leq lg.1 lh.1) then
       some true
      else
       some (cm .geq lg.1 n)).bind fun su=>
       bif su then
        some (.done (.ret z))
       else
        some (.next (lg.1,(ar .add .i64 lh.2 (1:Int))))
    else
     some (.done (.XT ()))
    ) ((-1:Int),(0:Int)) k=if w9 n (-1) l then k () else some z:=by
 rw[show ((-1:Int),(0:Int))=(fun (i:Nat) (acc:Int)=>(acc,(i:Int))) 0 (-1) from rfl,Ma (l:=l) (fun (i:Nat) (acc:Int)=>(acc,(i:Int))) (fun _ _=>True) (fun acc x=>if V4 n acc x then .done (.ret z) else .next x.1) (fun _=> .XT ()) (-1) (by unfold fL;omega) trivial]
 ·have:∀(l:List Pt) (prev:Int),yZ (fun (acc:Int) (x:Pt)=>(if V4 n acc x then Step.done (Ex.ret z) else .next x.1:Step Int (Ex Unit γ))) (fun _=> .XT ()) prev l=if w9 n prev l then .XT () else .ret z:=by
   intro l
   induction l with
   |nil=>intro prev;simp[yZ,w9]
   |cons x l C=>
    intro prev;simp only[yZ,w9];by_cases u:V4 n prev x=true
    ·simp[u]
    ·simp[u,C]
  rw[this];cases w9 n (-1) l<;>simp[out]
 ·rintro B x E acc rfl -;have D:B.length<=1000000:=by simp at hl;omega
  refine⟨?_,fun _ _=>trivial⟩;simp only[pU,YX,nD,cM];simp only[O6,cle];rw[C2 (by omega)];unfold V4;by_cases h:x.1<=acc
  ·simp[h,Jh]
  ·by_cases A:x.1>=n
   ·simp[h,A,Jh]
   ·simp[h,A,Jh]
 ·rintro acc -;simp only[dV,pF]
theorem az(l:List Pt)(peer ZS:List aR):(l7 l peer ZS).length<=l.length:=by unfold l7;rw[oc];exact aCx _ _
theorem JR(pre:List Pt)(x:Pt)(peer ZS:List aR):l7 (pre++[x]) peer ZS=l7 pre peer ZS++(if same x peer then [] else [Uj x peer ZS]):=by
 unfold l7;rw[aB4,aCr];cases h:same x peer<;>simp[aD5,h]
theorem JS:opt 0=none:=rfl
theorem RA{n:Int}(h:n≠0):opt n=some n:=by unfold opt;rw[XV h]
theorem lz(l:List Pt)(peer ZS:List aR)(hl:l.length<=1000)(hh:ZS.length<=1000000):
  rG l peer ZS=some (if ZT peer ZS≠0 then ([],some (ZT peer ZS)) else if w9 (peer.length:Int) (-1) l then (l7 l peer ZS,none) else ([],some 1)):=by
 unfold rG;rw[Od peer ZS hh,cM];by_cases h:ZT peer ZS≠0
 ·rw[RA h,YC h];rfl
 have h:ZT peer ZS=0:=by simpa using h
 have A:1<=peer.length/\peer.length<=32:=by
  unfold ZT at h;split at h
  ·cases h
  ·omega
 rw[h,JS];simp only[p7,pF];rw[JP l _ _ (by omega)];cases hr:w9 (peer.length:Int) (-1) l with
 |false=>simp
 |true=>
  simp only[r7];obtain⟨M,E,F⟩:=Wc peer A.1 A.2;rw[F,cM];simp only[p7,pF];have B:((0:Int),([]:List w7))=(fun (i:Nat) (acc:List w7)=>((i:Int),acc)) 0 []:=rfl;rw[B];refine(Ds (l:=l) (r:=some (l7 l peer ZS,none)) (fun (i:Nat) (acc:List w7)=>((i:Int),acc)) (fun u acc=>acc=l7 u peer ZS) (fun acc=>acc) [] (by unfold fL;omega) rfl ?_ ?_ ?_).trans (by simp)
  ·rintro u x L acc z rfl;have C:=P8 hr x (by rw[z];simp);have I:u.length<=1000:=(by rw[z] at hl;simp at hl;omega);have K:=az u peer ZS;obtain⟨y,G,H⟩:=xD (l:=peer) (n:=x.1) (by omega) C.2;have D:same x peer=decide (y=x.2):=(by unfold same;rw[H];simp);refine⟨l7 u peer ZS++(if same x peer then [] else [Uj x peer ZS]),?_,(JR _ _ _ _).symm⟩;simp only[kR z,YX,kF z,cM,jp,G,<-D];rw[OB E hh x (l7 u peer ZS) (by omega)];rw[C2 (by omega)];cases same x peer<;>simp
  ·rintro acc rfl;simp only[dV,pF]
  ·rintro acc rfl;rfl
theorem Tn(p:Pt)(peer ZS:List aR):(Uj p peer ZS).1=p.1:=by unfold Uj;split;rfl;split;rfl;split<;>rfl
theorem JT(p:Pt)(peer ZS:List aR):0<=(Uj p peer ZS).2.1/\(Uj p peer ZS).2.1<=3:=by unfold Uj;split;simp;split;simp;split<;>simp
theorem Jv{n:Int}{peer ZS:List aR}:∀{l:List Pt} {prev ox:Int},w9 n prev l=true->ox<=prev->goes n ox (l7 l peer ZS)=true
 | [],_,_,_,_=>rfl
 |x::l,prev,ox,h,B=>by
  simp only[w9,K0,tu] at h;have u:=h.1;unfold V4 at u;simp at u;cases hs:same x peer with
  |true=>
   have e:l7 (x::l) peer ZS=l7 l peer ZS:=(by unfold l7;simp[hs]);rw[e];exact Jv h.2 (by omega)
  |false=>
   have e:l7 (x::l) peer ZS=Uj x peer ZS::l7 l peer ZS:=(by unfold l7;simp[hs]);have A:=JT x peer ZS;have z:Py n ox (Uj x peer ZS)=false:=by
    unfold Py;rw[Tn];simp;omega
   rw[e];simp only[goes,z,yd,aEt];rw[Tn];exact Jv h.2 (aDo _)
theorem JU(p:Pt)(peer ZS:List aR):Ai (Uj p peer ZS) peer ZS=(p.2,true):=by
 have D:∀(l:List aR),p.2∈l->¬(((l.idxOf p.2:Nat):Int)<0\/((l.idxOf p.2:Nat):Int)>=l.length)/\l.getD (((l.idxOf p.2:Nat):Int).toNat) []=p.2:=by
  intro l h;have E:=aEg h;refine⟨by omega,?_⟩;simp[V7,J0 E]
 unfold Uj;by_cases u:p.2=aQ
 ·simp[u,Ai]
 by_cases z:p.2∈peer
 ·obtain⟨B,C⟩:=D peer z;simp only[u,z,r5,r7,Ai];rw[XV (by decide),XV (by decide)];simp only[show¬(1:Int)=2 by decide,r5,B,C]
 by_cases A:p.2∈ZS
 ·obtain⟨B,C⟩:=D ZS A;simp only[u,z,A,r5,r7,Ai];rw[XV (by decide),XV (by decide)];simp only[r7,B,C,r5]
 ·simp[u,z,A,Ai]
def news(l:List Pt)(peer:List aR):List Pt:=l.filter fun p=> !same p peer
theorem EU(l:List Pt)(peer ZS:List aR):ZJ peer ZS (l7 l peer ZS)=(news l peer,[]):=by
 unfold ZJ;have h:∀(l:List Pt) (i:Nat) (acc:List (Int×aR)×List Int),(((l.map fun p=>Uj p peer ZS).zipIdx i).foldl (fun acc x=>Tm peer ZS x.1 acc) acc)=(acc.1++l,acc.2):=by
  intro l
  induction l with
  |nil=>intro i acc;simp
  |cons x l u=>
   intro i acc;rw[L4,aCk,Z0,u];unfold Tm;rw[JU,Tn];simp
 unfold l7;rw[h];simp[news]
theorem nv(l:List Pt)(peer ZS:List aR)(hl:l.length<=1000)(hh:ZS.length<=1000000)(he:ZT peer ZS=0)(hr:w9 (peer.length:Int) (-1) l=true):
  pR (l7 l peer ZS) peer ZS=some (news l peer,[],none):=by
 rw[JL _ _ _ (by have:=az l peer ZS;omega) hh];have:Wa (ZT peer ZS) peer.length (l7 l peer ZS)=0:=by
  unfold Wa;rw[he,Jv hr (aDo _)];rfl
 rw[YC this,EU]
def Lk(acc:List aR)(l:List Pt):List aR:=l.foldl (fun acc p=>acc.set p.1.toNat p.2) acc
theorem T7{n:Int}{peer:List aR}:∀{l:List Pt} {prev:Int} {acc:List aR},-1<=prev->w9 n prev l=true->(∀i:Nat,prev<(i:Int)->acc[i]? =peer[i]?)->Lk acc (news l peer)=Lk acc l
 | [],_,_,_,_,_=>rfl
 |x::l,prev,acc,F,h,z=>by
  simp only[w9,K0,tu] at h;have A:=h.1;unfold V4 at A;simp at A;have D:x.1=((x.1.toNat:Nat):Int):=by omega
  cases hs:same x peer with
  |true=>
   have e:news (x::l) peer=news l peer:=(by unfold news;simp[hs]);have C:acc.set x.1.toNat x.2=acc:=by
    have B:peer[x.1.toNat]? =some x.2:=(by unfold same at hs;simpa using hs);rw[<-z x.1.toNat (by omega)] at B;apply aCc;intro i;rw[aCq];split
    ·rename_i u;subst u;split
     ·exact B.symm
     ·rename_i E;rw[dc (by omega)]
    ·rfl
   rw[e,T7 (by omega) h.2 (fun i u=>z i (by omega))];show _=Lk (acc.set _ _) l;rw[C]
  |false=>
   have e:news (x::l) peer=x::news l peer:=(by unfold news;simp[hs]);rw[e];show Lk (acc.set _ _) (news l peer)=Lk (acc.set _ _) l;refine T7 (by omega) h.2 (fun i u=>?_);rw[xi (by omega)];exact z i (by omega)
theorem gp{peer ZS:List aR}(h1:1<=peer.length)(h2:peer.length<=32)(h3:ZS.length<=8)(h4:ZS.Nodup):ZT peer ZS=0:=by
 unfold ZT Tl;rw[XV (by omega),XV (by omega),YC h4]
theorem zr{n:Int}{l:List Pt}{peer:List aR}(hr:w9 n (-1) l=true):∀x∈news l peer,0<=x.1/\x.1<n:=by
 intro x h;have:=P8 hr x (aCj.1 h).1;omega
end Go.p6
namespace Go.YA
open Go.Pl
open Go Go.Sw Go.Mo
def To:Nat:=3988292384
def Zm(r:Nat):Nat:=if r % 2=1 then r / 2 ^^^ To else r / 2
theorem OC{r:Nat}(h:r<4294967296):Zm r<4294967296:=by
 unfold Zm;split
 ·have:r / 2 ^^^ To<2 ^ 32:=aCd (by omega) (by unfold To;omega);simpa using this
 ·omega
def Pz:Nat->Nat->Nat
 | 0,r=>r
 |n+1,r=>Zm (Pz n r)
theorem Mf{n r:Nat}(h:r<4294967296):Pz n r<4294967296:=by
 induction n with
 |zero=>exact h
 |succ n u=>exact OC u
def Aj(r:Nat)(b:Nat):Nat:=Pz 8 (r ^^^ b)
theorem Bx{r b:Nat}(h:r<4294967296)(hb:b<256):Aj r b<4294967296:=by
 refine Mf ?_;have:r ^^^ b<2 ^ 32:=aCd (by omega) (by omega);simpa using this
def Ak(l:List Nat):Nat:=l.foldl Aj 4294967295
theorem Ik(l:List Nat)(r:Nat)(h:r<4294967296)(hb:∀b∈l,b<256):l.foldl Aj r<4294967296:=by
 induction l generalizing r with
 |nil=>exact h
 |cons b l z=>exact z _ (Bx h (hb b (by simp))) (fun x u=>hb x (by simp[u]))
def Bytes(l:List Int):Prop:=∀x∈l,0<=x/\x<=255
def nat(l:List Int):List Nat:=l.map Int.toNat
theorem Il{l:List Int}(h:Bytes l):∀b∈nat l,b<256:=by
 intro b u;obtain⟨x,z,rfl⟩:=fx.1 u;have:=h x z;omega
theorem JV(l:List Int)(h:Bytes l)(hl:l.length<=1000000):uC l=some ((4294967295 - Ak (nat l):Nat):Int):=by
 unfold uC;rw[show ((4294967295:Int),(0:Int))=(((⟨4294967295,by decide⟩:{r:Nat // r<4294967296}).1:Int),((0:Nat):Int)) from rfl];rw[Bs (l:=l) (fun i (r:{r:Nat // r<4294967296})=>((r.1:Int),(i:Int))) ⟨4294967295,by decide⟩ (fun _ x r=> .next ⟨Aj r.1 x.toNat % 4294967296,pz _ (by decide)⟩) (fun r=> .XT (r.1:Int)) (by unfold fL;omega)]
 ·have:∀(l:List Int) (i:Nat) (r:{r:Nat // r<4294967296}),Bytes l->tC (fun (_:Nat) (x:Int) (r:{r:Nat // r<4294967296})=>(Step.next ⟨Aj r.1 x.toNat % 4294967296,pz _ (by decide)⟩:Step _ (Ex Int Int))) (fun r=> .XT (r.1:Int)) i r l= .XT (((nat l).foldl Aj r.1:Nat):Int):=by
   intro l
   induction l with
   |nil=>intro i r _;rfl
   |cons x l I=>
    intro i r z;simp only[tC,nat,L4,Z0];have u:=I (i+1) ⟨Aj r.1 x.toNat % 4294967296,pz _ (by decide)⟩ (fun y G=>z y (by simp[G]));rw[u];have:=z x (by simp);have e:Aj r.1 x.toNat % 4294967296=Aj r.1 x.toNat:=V8 (Bx r.2 (by omega));show Ex.XT (((nat l).foldl Aj (Aj r.1 x.toNat % 4294967296):Nat):Int)=_;rw[e];rfl
  rw[this l 0 _ h];have A:(nat l).foldl Aj 4294967295<4294967296:=Ik _ _ (by decide) (Il h);simp only[out,Ak];rw[TJ A]
 ·rintro H x L ⟨r,B⟩ rfl;have K:=h x (by simp);obtain⟨b,rfl⟩:∃b:Nat,x=(b:Int):=⟨x.toNat,by omega⟩;have z:b<256:=by omega
  simp only[pU,YX,nD,cM];have C:r ^^^ b<4294967296:=by
   have:r ^^^ b<2 ^ 32:=aCd (by omega) (by omega);simpa using this
  rw[PW B (by omega),show ((((r ^^^ b:Nat):Int)),(0:Int))=(fun i:Nat=>((Pz i (r ^^^ b):Int),(i:Int))) 0 from rfl];rw[Vp (fun i:Nat=>((Pz i (r ^^^ b):Int),(i:Int))) 8 ((Pz 8 (r ^^^ b):Nat):Int) (by unfold fL;omega)]
  ·simp only[Jh,IP (n:=H.length) (m:=1000000) (by simp at hl;omega) (by omega),A5];rw[V8 (Bx B z)];rfl
  ·intro i F;have A:=Mf (n:=i) C;have D:cm .lss (i:Int) 8=true:=(by simp[cm];omega);have E:(Pz i (r ^^^ b)) / 2<4294967296:=(by omega);simp only[D,YX,VH,TH A,TI (pz _ (by decide:0<2))];rw[PW E (by split<;>decide),IP (n:=i) (m:=8) F (by omega)];simp only[Pz,Zm,To];split
   ·rename_i u;simp[u]
   ·rename_i u;simp[u]
  ·simp[cm]
 ·rintro⟨r,B⟩;simp[dV]
end Go.YA
