/- The library over the model: how values lie, what is ours in memory, rules for operations, calls, loops; functions that tell themselves. Conditions: none. -/
import Derived.Test.YthpkohijooimbaaGreatDoorMBConsoleSays
import Derived.KernelRfl
import Derived.Laws.Strings
import Derived.Laws.Strings2
import Derived.Laws.BytesString
import Derived.Lib.SlTrimSet
import Derived.Lib.Bytealg
import Derived.Lib.Atoi
import Derived.Lib.ItoaMem
import Derived.Lib.Join
import Derived.Lib.Split
import Derived.Lib.Builder
import Derived.Lib.AppendStr
import Derived.Lib.UnsafeStr
set_option linter.unusedVariables false
set_option linter.unusedSimpArgs false
namespace Go.Sw
open Go Go.RowKit
variable {α β γ κ:Type}{F F':w8}{ops:Array aBa}{os:List aBa}{O O':AS}{s res s0:Slot}{new d' dd:List (Nat×j2)}{Q:aBd->aBe->aAf->Prop}{ty T2 U:aAg}{p:String}{af:Array Edge}{gd:Option (Nat×Bool)}{pb:Option Nat}{OK:List (Nat×j2)->Prop}{C:List Nat}
theorem FK{α:Type}{xs r:List α}{lo hi:Int}(h:del xs lo hi=some r):∃A M B,xs=A++(M++B)/\lo=(A.length:Int)/\hi=((A.length+M.length:Nat):Int)/\r=A++B:=by
 unfold del at h;cases hs:sub xs lo hi with
 |none=>rw[hs] at h;cases h
 |some v=>
  rw[hs] at h;simp only[cA,W6] at h;subst h;obtain⟨u,C,D,_⟩:=eB hs;have hd:xs.drop lo.toNat=(xs.take hi.toNat).drop lo.toNat++xs.drop hi.toNat:=by
   grind [List.take_append_drop,List.length_take]
  refine⟨xs.take lo.toNat,(xs.take hi.toNat).drop lo.toNat,xs.drop hi.toNat,by rw[<-hd,sw],?_,?_,rfl⟩
  ·rw[Z1];omega
  ·rw[Z1,mr,Z1];omega
theorem RT{α:Type}(A M B:List α):sub (A++(M++B)) (A.length:Int) ((A.length+M.length:Nat):Int)=some M:=by
 have u:(A++(M++B)).length=A.length+(M.length+B.length):=by simp
 rw[sub,sM (by omega),gR,gR,<-dt,List.take_left' (by simp),aGa]
section
variable {d:Option Tmp}{x y z u:aAp}{e:Fu α}{T:aAg}{i b:Nat}
theorem RU{xs ys:List α}{lo hi mx:Int}{k k' k2:aA7}{E:aAg}(hs:Sw.sub xs lo hi=some ys)(hm:mx=(xs.length:Int))(hx:aV O.g x=some (.ref i))(he:aF O.d i=some (.arr T e xs))(hy:aV O.g y=some (.v (Fu.int k) lo))(hz:aV O.g z=some (.v (Fu.int k') hi))(hu:aV O.g u=some (.v (Fu.int k2) mx))(hU:∀w,(underlying U).run F.P w= .ok (.slice E) w)(hE:∀w,(sizeOf E).run F.P w= .ok e.n w):JO F ⟨d,.slice U x (some y) (some z) (some u),ty,p,af,gd⟩ O (.sub i (lo.toNat*e.n) (hi.toNat - lo.toNat)) []:=by
 subst hm;intro ρ S a w K;obtain⟨A,C,X,h2,B,h3⟩:=Tv K (x:=x) (by simp[Op.operands]) hx he;have D:=(dC K (x:=y) (by simp[Op.operands]) hy).1;have G:=(dC K (x:=z) (by simp[Op.operands]) hz).1;have I:=(dC K (x:=u) (by simp[Op.operands]) hu).1;obtain⟨s0,s1,s2,_⟩:=eB hs;have L:(Instr.sliceBounds true xs.length C (some (.int k lo)) (some (.int k' hi)) (some (.int k2 (xs.length:Int)))).run F.P w= .ok (lo.toNat,hi.toNat,xs.length) w:=by
  have M:(xs.length:Int)<=(C:Int):=by omega
  have N:0<=hi:=by omega
  have Q:lo<=(hi.toNat:Int):=by omega
  have R:(0:Int)<=(xs.length:Int):=by omega
  simp only[Instr.sliceBounds,Instr.sliceBound,asIntOf,Sem.run_bind,Sem.run_pure,Result.andThen_ok,s0,M,N,Q,R,s2,gR,aIe,K4]
 refine j6.value (w':=w) (v:= .slice (if xs.length=lo.toNat then A else A.map (·.add (lo.toNat*e.n))) (hi.toNat - lo.toNat) (xs.length - lo.toNat)) ?_ (y9.same ?_)
 ·simp[execOp,Instr.sliceAt,Instr.slice,X,D,G,I,hU,hE,L]
 ·have V:∀q,A=some q->q.spot=none:=by
   rintro q rfl;rcases h3 with⟨_,h⟩|⟨b',je,ab,cs,ac,h,_⟩
   ·rw[B] at h;cases h
   ·rw[B] at h;simp only[Value.slice.injEq,W6] at h;rw[h.1]
  simp only[Slot.ok];rw[B];refine⟨⟨_,_,_,rfl⟩,xs.length - lo.toNat,if xs.length=lo.toNat then 0 else lo.toNat*e.n,by omega,?_,?_⟩
  ·split
   ·right;omega
   ·exact .inl rfl
  ·cases A with
   |none=>split<;>rfl
   |some q=>
    obtain⟨b',o',sp⟩:=q;have:=V _ rfl;simp only at this;subst this;split
    ·rfl
    ·simp[Tc,Addr.add_lit]
theorem Uj{o n c m:Nat}{lo:Int}{k:aA7}{E:aAg}(n':Nat)(fu:n'=0)(hlo:lo=(m:Int))(hm:m=n)(hmc:m=c)(hx:aV O.g x=some (.T9 i o 0 n c))(hy:aV O.g y=some (.v (Fu.int k) lo))(hU:∀w,(underlying U).run F.P w= .ok (.slice E) w)(hE:∀w,(sizeOf E).run F.P w= .ok e.n w):JO F ⟨d,.slice U x (some y) none none,ty,p,af,gd⟩ O (.T9 i o 0 n' 0) []:=by
 intro ρ S a w K;obtain⟨b,u,B⟩:=qP (K.slot x (by simp[Op.operands]) _ hx);have A:=(dC K (by simp[Op.operands]) hy).1;refine j6.value ?_ (y9.same (Kv u))
 simp_all [Ax,execOp,Instr.sliceAt,Instr.slice]
theorem Hu{o n c m m2:Nat}{lo hi:Int}{k k':aA7}{E:aAg}(o' n' c':Nat)(hlo:lo=(m:Int))(hhi:hi=(m2:Int))(hm:m<=m2)(hmc:m<c)(hm2:m2<=c)(ho:o'=o+m*e.n)(fu:n'=m2 - m)(lj:c'=c - m)(hx:aV O.g x=some (.T9 i o 0 n c))(hy:aV O.g y=some (.v (Fu.int k) lo))(hz:aV O.g z=some (.v (Fu.int k') hi))(hU:∀w,(underlying U).run F.P w= .ok (.slice E) w)(hE:∀w,(sizeOf E).run F.P w= .ok e.n w):JO F ⟨d,.slice U x (some y) (some z) none,ty,p,af,gd⟩ O (.T9 i o' 0 n' c') []:=by
 subst hlo hhi ho fu lj;intro ρ S a w K;obtain⟨b,D,G⟩:=qP (K.slot x (by simp[Op.operands]) _ hx);have u:=(dC K (x:=y) (by simp[Op.operands]) hy).1;have A:=(dC K (x:=z) (by simp[Op.operands]) hz).1;refine j6.value (w':=w) ?_ (y9.same (Kv D));have B:=Oc (P:=F.P) (w:=w) (len:=n) (cap:=c) (k:=k) (k':=k') (lo:=(m:Int)) (hi:=(m2:Int)) (by omega) (by omega) (by omega);have C:¬(c=m):=by omega
 simp[execOp,Instr.sliceAt,Instr.slice,G,u,A,hU,hE,B,C,Addr.add_lit]
theorem Lb{o n c:Nat}{E:aAg}(hx:aV O.g x=some (.T9 i o 0 n c))(hU:∀w,(underlying U).run F.P w= .ok (.slice E) w)(hc:n<=9223372036854775807):JO F ⟨d,.call ⟨.builtin .len,#[x],#[U]⟩,ty,p,af,gd⟩ O (.v (Fu.int .i64) (n:Int)) []:=by
 intro ρ S a w K;obtain⟨b,u,A⟩:=qP (K.slot x (by simp[Op.operands,Call.operands]) _ hx);refine j6.value ?_ (y9.same (pE (yW hc) _ _ _))
 simp_all [execOp,resolve,invoke,builtin,Du]
theorem Ox{pp q c o2 c2:Nat}{A M B:List α}{E:aAg}(he:aF O.d i=some (.dp (DE.ju E e b) [.any pp,.rows A,.rows (M++B),.any q] []))(hx:aV O.g x=some (.T9 i pp 0 A.length c))(hy:aV O.g y=some (.T9 i o2 0 B.length c2))(ho2:B=[]\/o2=pp+(A.length+M.length)*e.n)(cu:A.length+B.length<=c)(hU:∀w,(underlying U).run F.P w= .ok (.slice E) w)(hE:∀w,(sizeOf E).run F.P w= .ok e.n w)(hd:eR d F.N=true):JM F ⟨d,.call ⟨.builtin .append,#[x,y],#[U,U]⟩,ty,p,af,gd⟩ O ⟨gL d (.T9 i pp 0 (A.length+B.length) c) O.g,(i,.dp (DE.ju E e b) [.any pp,.rows A,.rows B,.rows [],.any (M.length*e.n+q)] [])::O.d⟩:=by
 rintro a w ⟨⟨ρ,hc,hs⟩,N2,G6⟩;have K:=aY hc hs (Op.call ⟨.builtin .append,#[x,y],#[U,U]⟩).operands;obtain⟨b1,g1,g2⟩:=qP (K.slot x (by simp[Op.operands,Call.operands]) _ hx);obtain⟨b2,g3,V⟩:=qP (K.slot y (by simp[Op.operands,Call.operands]) _ hy);obtain⟨Q,cs,R,C,_,rfl,G,ca,_,rfl,k4,X,_,rfl,k5,ab,_,rfl,X0,rfl⟩:=Tz hc he;have e1:b1=b:=by rw[Q] at g1;cases g1;rfl
 have e2:b2=b:=by rw[Q] at g3;cases g3;rfl
 rw[e1] at g2;rw[e2] at V;have G:C.length=pp:=G;have X0:ab.length=q:=X0;have S:=bG k4;have ll:=bG k5;have an:M.length*e.n<=X.length:=by rw[ll,cM,jk];omega
 obtain⟨cm,cb,rfl,hm,kb⟩:∃cm cb,X=cm++cb/\cm.length=M.length*e.n/\e.H8 B (Un F.S0 ρ O.d) w cb:=by
  refine⟨X.take (M.length*e.n),X.drop (M.length*e.n),(sw _ _).symm,by rw[Z1];omega,?_⟩;have:=uZ M.length k5
  rwa [aGa] at this
 have T:=bG kb;obtain⟨rest,L6⟩:∃rest,rest=cm++(cb++ab):=⟨_,rfl⟩;have kv:rest.length=M.length*e.n+(B.length*e.n+q):=by rw[L6];simp only[cM];omega
 have ae:C++(ca++(cm++cb++(ab++[])))=C++ca++rest:=by rw[L6];simp
 rw[ae] at R;have fin:∀w',(execOp a.eval ⟨d,.call ⟨.builtin .append,#[x,y],#[U,U]⟩,ty,p,af,gd⟩).run F.P w= .ok (.value (.slice (some ⟨b,pp,none⟩) (A.length+B.length) c)) w'->ff b w w'->
   (∃r',r'.length=M.length*e.n+q/\w'.heap[b]? =some (.cells (C++ca++(cb++r')).toArray E (0,0)))->
   j6 F.P ⟨d,.call ⟨.builtin .append,#[x,y],#[U,U]⟩,ty,p,af,gd⟩ a w λv w'=>St F ⟨gL d (.T9 i pp 0 (A.length+B.length) c) O.g,(i,.dp (DE.ju E e b) [.any pp,.rows A,.rows B,.rows [],.any (M.length*e.n+q)] [])::O.d⟩ (a.put d v) w':=by
  rintro w' I hu ⟨r',ak,al⟩;refine j6.value I ?_;obtain⟨q1,q2⟩:=hc.gv (en':= .dp (DE.ju E e b) [.any pp,.rows A,.rows B,.rows [],.any (M.length*e.n+q)] []) he (.inl (by rw[Q];rfl)) hu λhE=>⟨Q,_,al,C,_,by simp,G,ca,_,rfl,Fu.q8 k4 hE,cb,_,rfl,Fu.q8 kb hE,[],_,rfl,rfl,r',[],rfl,ak,rfl⟩;have ac:∀t s,lk O.g t=some s->s.ok ρ (Un F.S0 ρ ((i,.dp (DE.ju E e b) [.any pp,.rows A,.rows B,.rows [],.any (M.length*e.n+q)] [])::O.d)) w' (a.tmps.getD t undef):=λt s D=>Slot.j5 s _ (hs t s D) q2 (λ_ _=>rfl);refine⟨⟨ρ,q1,λt s D=>?_⟩,by rw[kC,N2],by cases d<;>exact G6⟩;cases d with
  |none=>exact ac t s D
  |some q0=>
   simp only[gL] at D;have B0:q0<a.tmps.size:=(by rw[N2];exact gQ hd);rw[kD a q0 _ t B0];rw[kF] at D;split at D
   ·rename_i L;cases D;rw[sM L];exact Kv Q
   ·rename_i L;rw[nS L];exact ac t s D
 by_cases hB:B=[]
 ·subst hB;have ai:cb=[]:=ya (by simpa using T);refine fin w ?_ ⟨rfl,λ_ _=>rfl,rfl,rfl,rfl⟩ ⟨rest,by rw[kv];simp,by rw[ai];exact R⟩;have I:=sQ (P:=F.P) (w:=w) (U:=U) (E:=E) (tt:=ty) (n:=e.n) (base:=some ⟨b,pp,none⟩) (ad:=some ⟨b,o2,none⟩) (l:=A.length) (c:=c2) (cap:=c) hU hE (by simpa using cu);simp only[ue] at V;simp[execOp,resolve,invoke,builtin,g2,V,I]
 ·have ho2:=ho2.resolve_left hB;subst ho2;have P4:∀j u,cb[j]? =some u->w.cell? ((⟨b,pp+(A.length+M.length)*e.n,none⟩:aBc).add j)=some u:=by
   have aj:r8 w b (C.length+(ca++cm).length) cb:=by
    have L:=r8.of_heap R;have e3:C++ca++rest=(C++(ca++cm))++(cb++ab):=(by rw[L6];simp);rw[e3] at L;have:=L.sub;simpa using this
   intro j u hj;have:=aj.cell j u hj
   rwa [G,cM,S,hm,<-jk] at this
  have lf:pp+A.length*e.n+cb.length<=(C++ca++rest).length:=by simp only[cM,G,S,kv,T];omega
  have I:=Cm (P:=F.P) (w:=w) (U:=U) (E:=E) (tt:=ty) (n:=e.n) (g:=b) (off:=pp) (l:=A.length) (cap:=c) (m:=B.length) (c:=c2) (cur:=C++ca++rest) (a:=⟨b,pp+(A.length+M.length)*e.n,none⟩) (news:=cb) hU hE R T P4 (Jk kb) cu lf;have D:(C++ca++rest).take (pp+A.length*e.n)=C++ca:=by
   have:pp+A.length*e.n=(C++ca).length:=(by rw[cM,G,S]);rw[this];exact aGz
  have Rt:(C++ca++rest).drop (pp+A.length*e.n+cb.length)=rest.drop cb.length:=by
   have:pp+A.length*e.n=(C++ca).length:=(by rw[cM,G,S]);rw[this,<-aHr,aGa]
  rw[D,Rt,dt] at I;refine fin _ ?_ (ff.setRow w b _) ⟨rest.drop cb.length,by rw[mr,kv,T];omega,setRow_heap w b _ _ E _ R⟩;simp[execOp,resolve,invoke,builtin,g2,V,I]
theorem Hv{pp q o k c:Nat}{A B:List α}{z0:aA4}{zv:α}{E:aAg}(he:aF O.d i=some (.dp (DE.ju E e b) [.any pp,.rows A,.rows B,.rows [],.any q] []))(hx:aV O.g x=some (.T9 i o 0 k c))(ho:o=pp+(A.length+B.length)*e.n)(hk:k*e.n<=q)(hk0:0<k)(hU:∀w,(underlying U).run F.P w= .ok (.slice E) w)(hZ:∀w,(zeroValue E).run F.P w= .ok z0 w)(hz:∀S w,e.ok zv S w z0.cells.toList):JM F ⟨none,.call ⟨.builtin .clear,#[x],#[U]⟩,ty,p,af,gd⟩ O ⟨O.g,(i,.dp (DE.ju E e b) [.any pp,.rows A,.rows B,.rows [],.any q] [])::O.d⟩:=by
 subst ho;rintro a w ⟨⟨ρ,hc,hs⟩,N2,G6⟩;have K:=aY hc hs (Op.call ⟨.builtin .clear,#[x],#[U]⟩).operands;obtain⟨b1,g1,g2⟩:=qP (K.slot x (by simp[Op.operands,Call.operands]) _ hx);obtain⟨V,cs,X,C,_,rfl,L,D,_,rfl,k4,G,_,rfl,k5,c0,_,rfl,k6,post,_,rfl,M,rfl⟩:=Tz hc he;have e1:b1=b:=by rw[V] at g1;cases g1;rfl
 rw[e1] at g2;have L:C.length=pp:=L;have M:post.length=q:=M;have og:=bG k4;have ll:=bG k5;have h0:c0=[]:=k6;subst h0;have ab:z0.cells.size=e.n:=by have:=e.len (hz (λ_=>False) w);simpa using this
 obtain⟨news,X2⟩:∃news,news=(Builtin.zeroCells z0.cells k).toList:=⟨_,rfl⟩;have nu:news.length=k*e.n:=by rw[X2,rk,size_zeroCells,ab]
 have X1:∀u∈news,u.oneCell'=true:=qK (By (hz (λ_=>False) w) k news nu λi hi=>by rw[X2];exact zE (by rw[ab];exact hi));obtain⟨I,ac⟩:∃I,I=C++(D++(G++([]++(post++[])))):=⟨_,rfl⟩;rw[<-ac] at X;have N:I=(C++(D++G))++post:=by rw[ac];simp
 have Q:pp+(A.length+B.length)*e.n=(C++(D++G)).length:=by simp only[cM,L,og,ll,jk]
 have lf:pp+(A.length+B.length)*e.n+news.length<=I.length:=by rw[N,cM,<-Q,nu];omega
 have R:=run_storeCells_at F.P b (pp+(A.length+B.length)*e.n) E news 0 I.toArray w X (by simpa using lf) X1;simp only[aHq] at R;have T:I.take (pp+(A.length+B.length)*e.n)=C++(D++G):=by rw[N,Q];exact aGz
 have Rt:I.drop (pp+(A.length+B.length)*e.n+news.length)=post.drop news.length:=by rw[N,Q,<-aHr,aGa]
 rw[T,Rt] at R;have D6:(Builtin.clear_ #[U] ty #[.slice (some ⟨b,pp+(A.length+B.length)*e.n,none⟩) k c]).run F.P w= .ok (.tuple #[]) (w.setRow b (C++(D++G)++news++post.drop news.length).toArray):=by
  obtain⟨n',rfl⟩:∃n',k=n'+1:=⟨k - 1,by omega⟩;simp[Builtin.clear_,hU,hZ,<-X2,R]
 refine j6.value (v:= .tuple #[]) (w':=w.setRow b (C++(D++G)++news++post.drop news.length).toArray) (by simp[execOp,resolve,invoke,builtin,g2,D6]) ?_;obtain⟨q1,q2⟩:=hc.gv (en':= .dp (DE.ju E e b) [.any pp,.rows A,.rows B,.rows [],.any q] []) he (.inl (by rw[V];rfl)) (ff.setRow w b _) λhE=>⟨V,_,setRow_heap w b _ (C++(D++G)++news++post.drop news.length).toArray E _ X,C,_,by simp,L,D,_,rfl,Fu.q8 k4 hE,G,_,rfl,Fu.q8 k5 hE,[],_,rfl,rfl,news++post.drop news.length,[],rfl,(by show (news++post.drop news.length).length=q;simp only[cM,mr,M];omega),rfl⟩;exact⟨⟨ρ,q1,λt s T=>Slot.j5 s _ (hs t s T) q2 (λ_ _=>rfl)⟩,N2,G6⟩
end
def gLV(n:Nat):LV:=⟨.pointer (some ⟨6,0,none⟩),λk=>k<n⟩
theorem A3.bJo{P:aA5}{f:aA6}{ss:List Slot}{vs:List aA4}{w:aAf}{v:aA4}{go:List Obj}{G:Nat}(hc:A3 P f ss [(G,.dp (aH v) go [])] (.v Fu.bool true) [(G,.dp (aH v) go [])])(hg:w.cell? ⟨6,0,none⟩=some v)(hn:6<go.length)(ho:∀i,i<go.length->∃o,w.heap[i]? =some o/\go[i]? =some o)(hv:aG (λ_=>gLV go.length) (λk=>k<go.length) w ss vs):Calls P f vs.toArray w λe w'=>e= .returned (.bool true)/\Below w.heap.size w w':=by
 have L:∀k,k<go.length->k<w.heap.size:=λk B=>let ⟨_,h,_⟩:=ho k B;(aDl.1 h).1;have C:∀k,lF (λ_=>gLV go.length) [(G,.dp (aH v) go [])] k↔k<go.length:=by
  intro k;constructor
  ·rintro⟨i,A,_,h⟩;rcases h with h | h
   ·have:(6:Nat)=k:=X6 h;omega
   ·exact h
  ·intro h;exact⟨G,.dp (aH v) go [],by rw[bA];simp,.inr h⟩
 have M:Un (λ_=>False) (λ_=>gLV go.length) [(G,.dp (aH v) go [])]=λk=>k<go.length:=by
  funext k;exact propext ⟨λh=>h.elim False.elim (λh=>(C k).1 h),λh=> .inr ((C k).2 h)⟩
 have D:∀i A,aF [(G,j2.dp (aH v) go [])] i=some A->i=G/\A=j2.dp (aH v) go []:=by
  intro i A h;rw[bA] at h;split at h
  ·rename_i e;exact⟨e.symm,(X6 h).symm⟩
  ·cases h
 refine Calls.mono (hc (λ_=>False) w vs (λ_=>gLV go.length) (λ_ h=>h.elim) ⟨?_,?_,λ_ _ _ _ _ h=>h,?_⟩ (by rw[M];exact hv)) ?_
 ·intro i A h;obtain⟨_,rfl⟩:=D i A h;exact⟨⟨rfl,hg⟩,λk B=>⟨let ⟨o,F,I⟩:=ho k B;F.trans I.symm,.inr B⟩⟩
 ·intro i A b h N;exact L b ((C b).1 ⟨i,A,h,N⟩)
 ·intro i j A O b h Q _ _;rw[(D i A h).1,(D j O Q).1]
 ·rintro e w' ⟨u,ρ',rfl,h⟩;have K:=h.slot;simp only[Slot.ok] at K;rw[wI.1 K];refine⟨rfl,h.os,h.tape,h.output,h.size,λk B=>?_⟩;by_cases E:k<go.length
  ·have:=(h.own G (.dp (aH v) go []) (by rw[bA];simp)).2 k E;obtain⟨o,F,I⟩:=ho k E;rw[this.1,I,F]
  ·exact h.frame k B (λR=>E ((C k).1 R))
mutual
theorem Slot.map_id:∀s:Slot,s.map id=s
 | .v _ _ | .ref _ | .ptr _ _ | .wi _ _ _ _ | .el _ _ _ _ | .T9 _ _ _ _ _ | .esl _ _ _ _ | .sub _ _ _ | .B8 _ _ | .top=>rfl
 | .G0 _ c=>by rw[Slot.map,zJ c]
 | .agg l | .q9 l=>by rw[Slot.map,zJ l]
theorem zJ:∀l:List Slot,dB id l=l
 | []=>rfl
 |s::l=>by rw[dB,Slot.map_id s,zJ l]
end
inductive Kp (g:List (Nat×Slot)):List Nat->List (Nat×Slot)->Prop
 |n:Kp g [] []
 |c {t:Nat} {s:Slot} {ts:List Nat} {g':List (Nat×Slot)}:lk g t=some s->Kp g ts g'->Kp g (t::ts) ((t,s)::g')
inductive Nd:List Nat->List (Nat×j2)->List (Nat×j2)->Prop
 |n {s:List Nat}:Nd s [] []
 |c {s:List Nat} {i:Nat} {en:j2} {r d:List (Nat×j2)}:dK i s=false->Nd (i::s) r d->Nd s ((i,en)::r) ((i,en)::d)
 |s {s:List Nat} {i:Nat} {en:j2} {r d:List (Nat×j2)}:dK i s=true->Nd s r d->Nd s ((i,en)::r) d
theorem Nd.spec{s:List Nat}{r d:List (Nat×j2)}(h:Nd s r d):∀i en,aF d i=some en->i∉s/\aF r i=some en:=by
 induction h with
 |n=>intro i en h;cases h
 | @c s j e r d C _ A=>
  grind [iD,bA]
 | @s s j e r d C _ A=>
  intro i en h;obtain⟨u,B⟩:=A i en h;refine⟨u,?_⟩;rw[bA,nS (λe:j=i=>u (by grind [iD]))];exact B
theorem Nd.mem{s:List Nat}{r d:List (Nat×j2)}(h:Nd s r d):∀i∈d.map (·.1),i∉s:=by
 induction h with
 |n=>simp
 | @c s j e r d A _ u=>
  intro i h;rcases sK.1 h with rfl | h<;>grind [iD,List.mem_cons_of_mem]
 |s _ _ u=>grind
theorem Nd.inj{s:List Nat}{r d:List (Nat×j2)}(h:Nd s r d):Ng id (d.map (·.1))=true:=by
 induction h with
 |n=>rfl
 | @c s j e r d C B u=>
  simp only[V0,Ng,u,Bool.and_true,nE];intro x A;have:=B.mem x A
  grind [Nat.beq,id,Nat.eq_of_beq_eq_true,absurd,List.mem_cons_self]
 |s _ _ u=>omega
theorem Lc{O:AS}{ls:List Nat}:∀{d:List (Nat×j2)},(∀x∈d,aF O.d x.1=some x.2)->Z2 O id ls d
 | [],_=> .nil
 | (i,C)::d,h=>by
  have u:=h _ kg;have k:=Lc (ls:=ls) (λx B=>h x (kf _ B));have A:∀l,kj O id ls l l:=by
   intro l
   induction l with
   |nil=>exact .nil
   |cons s l E=>exact .cons (.of_eq (Slot.map_id s).symm) E
  cases C with
  |box T l F=>exact .box u (A l) k
  |arr T e xs=>exact .arr u k
  |mp e f m=>exact .mp u k
  |dp D x l=>exact .dp (by simp_all) k
theorem Kp.sub{O:AS}{ls ts:List Nat}{g':List (Nat×Slot)}(h:Kp O.g ts g'):ou O id ls g':=by
 induction h with
 |n=>exact .nil
 |c h _ u=>exact .cons h (.of_eq (Slot.map_id _).symm) u
theorem Ld{r:Nat->Nat}:∀{d:List (Nat×j2)},Ng id (d.map (·.1))=true->∀x∈d,aF d x.1=some x.2
 | [],_,x,h=>by cases h
 | (i,A)::d,u,x,h=>by
  simp only[V0,Ng,bm,nE] at u;rw[bA];rcases sK.1 h with rfl | h
  ·simp
  ·rw[nS,Ld (r:=r) u.2 x h];intro e;have:=u.1 x.1 ((by grind))
   simp_all
section
theorem KQ{ts dr:List Nat}{g':List (Nat×Slot)}{d':List (Nat×j2)}(hg:Kp O.g ts g')(hd:Nd dr O.d d'):Sub F O ⟨g',d'⟩:=Sub.mk id hg.sub (Lc λx u=>(hd.spec _ _ (Ld (r:=id) hd.inj x u)).2) hd.inj
theorem J.kp(ts dr:List Nat){g':List (Nat×Slot)}{d':List (Nat×j2)}(hg:Kp O.g ts g':=by repeat (first | exact .n | (apply Kp.c;exact rfl)))
  (hd:Nd dr O.d d':=by repeat (first | exact .n | (apply Nd.c;exact rfl) | (apply Nd.s;exact rfl))):J F ops [] O ⟨g',d'⟩:=J.fin (KQ hg hd)
theorem bQ(r:List (Nat×Nat))(hg:ou O (rn r) (O'.d.map (·.1)) O'.g:=by repeat (first | exact .nil | refine .c rfl ?_ | refine .cons rfl (.oh rfl rfl) ?_))
  (hd:Z2 O (rn r) (O'.d.map (·.1)) O'.d:=by repeat (first | exact .nil | refine .arr rfl ?_ | refine .mp rfl ?_ | refine .dp rfl ?_ | refine .box rfl (by repeat (first | exact .nil | refine .c rfl ?_ | refine .cons (.oh rfl rfl) ?_)) ?_ | refine .aWu rfl (by repeat (first | exact .nil | refine .c rfl ?_ | refine .cons (.oh rfl rfl) ?_)) ?_))
  (hi:Ng (rn r) (O'.d.map (·.1))=true:=by rfl):Sub F O O':=Sub.mk (rn r) hg hd hi
end
section
variable {o:aBa}{yc σ1:AS}{s' s2:Slot}{u5:List (Nat×j2)}{cs:List aBb}{its:List E4}{id:Nat}
theorem J.g{t j:Nat}{want x:Bool}(hb:x=want)(h:JO F o O s new)(k:J F ops os (O.put o.dst s new) O')(g:o.guard= .some (j,want):=by rfl)(ht:(ops[j]?).bind (·.dst)= .some t:=by rfl)(hx:lk O.g t= .some (.v Fu.bool x):=by rfl)(hf:O.free new=true:=by rfl)(hd:eR o.dst F.N=true:=by rfl):J F ops (o::os) O O':=J.cons (.met t g ht hx hb) h hf hd k
theorem E9.k(h:JO F o O s new)(k:E9 F ops OK os ⟨gL o.dst s O.g,new++O.d⟩ its O')(g:o.guard= .none:=by rfl)(hd:eR o.dst F.N=true:=by rfl):E9 F ops OK (o::os) O (⟨s,new,new,Bv O.g o,[]⟩::its) O':= .cons (.none g) h hd k
def Ga(ops:Array aBa):List Nat:=ops.toList.foldl (λu o=>u++[(Kg o).foldl (λm j=>m ||| 1 <<< j ||| u.getD j 0) 0]) []
theorem Af(n:Nat)(hm:F.P.follows .mixedOrders=true)(hp:E9 F ops (λ_=>True) (ops.toList.take n) O its σ1)(ht:J F ops (ops.toList.drop n) σ1 O')(k:W F cs O' Q)
  (hn:Nat.ble n ops.size=true:=by rfl) (V9:xS ops=true:=by decide+kernel) (hms:Rd ops (Ga ops)=true:=by decide+kernel) (br:xG ops n (Ga ops)=true:=by decide+kernel) (zq:Tw its (Ga ops)=true:=by kernel_rfl) (yo:Tx O its (Ga ops)=true:=by kernel_rfl):
  W F (.region id ops true::cs) O Q:=Om _ n (Ga ops) hm hp ht hn V9 hms br zq yo (λ_=>trivial) k
theorem tK{d:Option Tmp}{ty:aAg}{p:String}{af:Array Edge}{gd:Option (Nat×Bool)}{f:aA6}{xs:List aAp}{ts:Array aAg}{ss:List Slot}{res:Slot}{C5 u5:(Nat->Nat)->List (Nat×j2)}{D:List (Nat×j2)}{K:List Nat}(H:List Nat)(r:Nat->Nat)(hr:∀i j,r i=r j->i=j)
  (hc:∀A,A3 F.P f ss (C5 A) res (u5 A)) (B5:∀args w,(callFunc f args).run F.P w= .ok (.enter f args) w) (V8:∀A,G2 O r A (u5 A) D K) (ha:T4 O r xs ss:=by repeat (first | exact .nil | refine .cons (.dir rfl) ?_))
  (T7:∀A,T3 O r A (C5 A):=by intro _;repeat (first | exact .nil | refine .box rfl ?_ | refine .arr rfl ?_ | refine .mp rfl ?_ | refine .dp rfl ?_))
  (hH:∀A,(C5 A).map (λx=>r x.1)=H:=by intro _;rfl) (D9:xT O.g (gS O.d H) H K D=true:=by rfl) (kz:Ko O H D=true:=by rfl) (D6:∀A,gH res (u5 A)=true:=by intro _;rfl) (xu:K.all (λk=>dK k H)=true:=by rfl) (J2:eR d F.N=true:=by rfl):
  JM F ⟨d,.call ⟨.value (.func f),xs.toArray,ts⟩,ty,p,af,gd⟩ O ⟨gL d (res.map r) O.g,D++gS O.d H⟩:=vA r hr hc B5 ha T7 V8 hH D9 kz D6 xu J2
theorem lZ{c:Tmp}{x y:aBb}{b:Bool}{α:Type}{p q z:α}(h:(bif b then p else q)=z)(hb:lk O.g c=some (.v Fu.bool b))(ht:b=true->p=z->W F (x::cs) O Q)(hf:b=false->q=z->W F (y::cs) O Q):W F (.cond (.tmp c) x y::cs) O Q:=
 yT hb (λe=>ht e (by grind)) λe=>hf e (by grind)
theorem cd{b:Bool}{α:Type}{p q z:α}{P:Prop}(h:(bif b then p else q)=z)(ht:b=true->p=z->P)(hf:b=false->q=z->P):P:=by
 grind
section
variable {fn:Func}{t t' t2:Nat}
theorem VW(g':List (Nat×Slot))(ex:List (Nat×j2))(hs:Sub F' O ⟨g',ex++u5⟩)(k:XQ F' ⟨g',ex++u5⟩ (rN F fn res u5) .ret):XQ F' O (rN F fn res u5) .ret:=kO hs k
theorem Le(hF:bp F F')(N3:fn.results= #[.tmp t])(hs:Sub F' O ⟨[(t,res)],u5⟩)(hn:K5 u5 u5:=by repeat (first | exact .nil | refine .cons rfl ?_)):XQ F' O (rN F fn res u5) .ret:=kO hs (jX hF N3 (.tmp (by simp[lk])) hn)
end
end
section
variable {s' s2:Slot}{fn:Func}{t t' t2:Nat}
theorem aBo(hF:bp F F')(hR:∀k,¬F.R k)(N3:fn.results= #[.tmp t])(hs:Sub F' O ⟨[(t,res)],new⟩)(hn:K5 new new:=by repeat (first | exact .nil | refine .cons rfl ?_))(D6:gH res new=true:=by rfl):
  XQ F' O (Ad F fn res new) .ret:=kO hs (vQ hF hR N3 (.tmp (by simp[lk])) hn D6)
end
theorem sO{α:Type}{e:Fu α}{x:α}:X7 [.v e x] e x:=X7.one e x
theorem s2{α β:Type}{a:Fu α}{b:Fu β}{x:α}{y:β}:X7 ([.v a x]++[.v b y]) (Fu.pr a b) (x,y):= .C8 sO sO
theorem s3{α β γ:Type}{a:Fu α}{b:Fu β}{c:Fu γ}{x:α}{y:β}{z:γ}:X7 ([.v a x]++([.v b y]++[.v c z])) (Fu.pr a (Fu.pr b c)) (x,(y,z)):= .C8 sO s2
theorem s4{α β γ δ:Type}{a:Fu α}{b:Fu β}{c:Fu γ}{d:Fu δ}{x:α}{y:β}{z:γ}{u:δ}:X7 ([.v a x]++([.v b y]++([.v c z]++[.v d u]))) (Fu.pr a (Fu.pr b (Fu.pr c d))) (x,(y,(z,u))):= .C8 sO s3
theorem zI:∀S w,(Fu.int .i64).ok 0 S w [.int .i64 0]:=Z.int .i64
def tl{α:Type}:List (Nat×α)->Nat->Option α | [],_=>none | (i,s)::r,t=>bif Nat.beq i t then some s else tl r t
inductive Tb {α:Type} (p:Nat->α->Prop):List (Nat×α)->Prop
 |n:Tb p []
 |c {i:Nat} {x:α} {l:List (Nat×α)}:p i x->Tb p l->Tb p ((i,x)::l)
theorem Tb.at{α:Type}{p:Nat->α->Prop}{l:List (Nat×α)}(h:Tb p l){i:Nat}{x:α}(hl:tl l i=some x):p i x:=by
 induction h<;>grind [tl,Nat.beq,Nat.eq_of_beq_eq_true]
class fT (P:aA5) where
 ag:List (Nat×Bool)
 hg:Tb (λT v=>∀w,(isAgg T).run P w= .ok v w) ag
 sz:List (Nat×Nat)
 hs:Tb (λT v=>∀w,(sizeOf T).run P w= .ok v w) sz
 un:List (Nat×aA9)
 hu:Tb (λT v=>∀w,(underlying T).run P w= .ok v w) un
 et:aAg
section
variable {σ1:AS}{d:Option Tmp}{x y z c:aAp}
def JA(F:w8)(ops:Array aBa)(n:Nat)(os:List aBa)(O O':AS)(Q:Prop):Prop:=Q->J F ops os O O'
theorem JA.z0{Q:Prop}(h:Q->J F ops os O O'):JA F ops 0 os O O' Q:=h
def J1(F:w8)(ops:Array aBa)(o:aBa)(O σ1:AS):Prop:=∀{os:List aBa} {O':AS},J F ops os σ1 O'->J F ops (o::os) O O'
theorem JA.s1{Q:Prop}{n:Nat}{o:aBa}(h:J1 F ops o O σ1)(k:JA F ops n os σ1 O' Q):JA F ops (n+1) (o::os) O O' Q:=λq=>h (k q)
theorem J1.o{o:aBa}{new:List (Nat×j2)}(h:JO F o O s new)(g:GK ops O.g o true)(hf:O.free new=true)(hd:eR o.dst F.N=true):J1 F ops o O (O.put o.dst s new):=λk=>J.cons g h hf hd k
theorem J1.w{o:aBa}(g:GK ops O.g o false)(hd:eR o.dst F.N=true):J1 F ops o O (O.put o.dst .top []):=λk=>J.left g hd k
theorem aEm{o:aBa}(h:JM F o O σ1)(g:GK ops O.g o true):J1 F ops o O σ1:=λk=>Nu g h k
theorem VX{g:List (Nat×Slot)}{o:aBa}{j:Nat}{want:Bool}{t:Tmp}{x:Bool}(h:o.guard= .some (j,want))(ht:(ops[j]?).bind (·.dst)= .some t)(hx:lk g t= .some (.v Fu.bool x))(hb:x=want):GK ops g o true:= .met t h ht hx hb
theorem KR{g:List (Nat×Slot)}{o:aBa}{j:Nat}{want:Bool}{t:Tmp}{x:Bool}(h:o.guard= .some (j,want))(ht:(ops[j]?).bind (·.dst)= .some t)(hx:lk g t= .some (.v Fu.bool x))(hb:x= !want):GK ops g o false:= .ye t h ht hx hb
section
variable {id:Nat}{cs:List aBb}
def JW(F:w8)(ops:Array aBa)(os:List aBa)(cs:List aBb)(O:AS)(Q:aBd->aBe->aAf->Prop):Prop:=∃O',J F ops os O O'/\W F cs O' Q
theorem pZ{ops:List aBa}(h:JW F ops.toArray ops cs O Q):W F (.region id ops.toArray false::cs) O Q:=by
 obtain⟨_,h,k⟩:=h;grind [pS]
theorem JW.k{o:aBa}{new:List (Nat×j2)}(h:JO F o O s new)(k:JW F ops os cs (O.put o.dst s new) Q)(g:o.guard= .none:=by rfl)(hf:O.free new=true:=by rfl)(hd:eR o.dst F.N=true:=by rfl):JW F ops (o::os) cs O Q:=by
 obtain⟨u,A,k⟩:=k;exact⟨u,J.k h A g hf hd,k⟩
theorem JW.t{o:aBa}(h:JM F o O σ1)(k:JW F ops os cs σ1 Q)(g:o.guard= .none:=by rfl):JW F ops (o::os) cs O Q:=by
 obtain⟨u,A,k⟩:=k;exact⟨u,J.t h A g,k⟩
theorem JW.sub(h:Sub F O O')(k:JW F ops os cs O' Q):JW F ops os cs O Q:=by
 obtain⟨_,u,k⟩:=k;exact⟨_,J.sub h u,k⟩
end
section
theorem oL[tb:fT F.P]{T U:aAg}{l:List Slot}{i off:Nat}(hx:aV O.g x=some (.ptr i off))(he:aF O.d i=some (.box T l pb))(ho:jJ l off=some s)(ha:tl tb.ag U=some s.ag)(hs:tl tb.sz U=some s.sz):JO F ⟨d,.load U x,ty,p,af,gd⟩ O s []:=gK hx he ho (tb.hg.at ha) (tb.hs.at hs)
theorem oF[tb:fT F.P]{U:aAg}{fs:Array aA8}{n i off m:Nat}{fl:aA8}(hx:aV O.g x=some (.ptr i off))(hu:tl tb.un U=some (.struct fs))(hf:fs[n]? =some fl)(hm:tl tb.sz fl.type=some m)(G4:Nat.beq m 0=false):JO F ⟨d,.fieldAddr U x n,ty,p,af,gd⟩ O (.ptr i (off+fl.offset)) []:=cB _ hx (tb.hu.at hu) hf (tb.hs.at hm) G4 (aHt _)
theorem oE[tb:fT F.P]{α:Type}{e:Fu α}{xs:List α}{U E:aAg}(hx:aV O.g x=some (.v (Fu.sl e) xs))(hu:tl tb.un U=some (.slice E)):JO F ⟨d,.call ⟨.builtin .len,#[x],#[U]⟩,ty,p,af,gd⟩ O (.v (Fu.int .i64) xs.length) []:=vG hx (tb.hu.at hu)
theorem oEr[tb:fT F.P]{α:Type}{e:Fu α}{xs:List α}{T U E:aAg}{i:Nat}(hx:aV O.g x=some (.ref i))(he:aF O.d i=some (.arr T e xs))(hu:tl tb.un U=some (.slice E)):JO F ⟨d,.call ⟨.builtin .len,#[x],#[U]⟩,ty,p,af,gd⟩ O (.v (Fu.int .i64) xs.length) []:=BA hx he (tb.hu.at hu)
theorem oP[tb:fT F.P]{α:Type}{e:Fu α}{v:α}{U:aAg}(hx:aV O.g x=some (.B8 e v))(ha:tl tb.ag U=some e.agg)(hs:tl tb.sz U=some e.n):JO F ⟨d,.load U x,ty,p,af,gd⟩ O (.v e v) []:=rY hx (tb.hg.at ha) (tb.hs.at hs)
theorem oI[tb:fT F.P]{α:Type}{e:Fu α}{xs:List α}{v:α}{U E:aAg}{k:aA7}{n:Int}(hx:aV O.g x=some (.v (Fu.sl e) xs))(hy:aV O.g y=some (.v (Fu.int k) n))(hz:Sw.idx xs n=some v)(hu:tl tb.un U=some (.slice E))(hm:tl tb.sz E=some e.n):JO F ⟨d,.indexAddr U x y,ty,p,af,gd⟩ O (.B8 e v) []:=Gg hz hx hy (tb.hu.at hu) (tb.hs.at hm)
theorem oN[tb:fT F.P]{T U U':aAg}{o:Option Int}{ms:Array (String×aAg)}(hx:aV O.g x=some (.v (Fu.err T) o))(hu:tl tb.un U=some (.interface ms)):JO F ⟨d,.binOp .neq U x (.const .nilIface) U',ty,p,af,gd⟩ O (.v Fu.bool o.isSome) []:=Tl (tb.hu.at hu) hx
theorem oK[tb:fT F.P]{T:aAg}{n:Int}(hx:aV O.g x=some (.v (Fu.int .i64) n))(hu:tl tb.un T=some (.int .i64)):JO F ⟨d,.makeInterface T x,ty,p,af,gd⟩ O (.v (Fu.err T) (some n)) []:=Ti (tb.hu.at hu) hx
theorem oZ[tb:fT F.P]:JO F ⟨d,.assign (.const .nilIface),ty,p,af,gd⟩ O (.v (Fu.err tb.et) none) []:=xR _
theorem oV[tb:fT F.P]{A B:aAg}{da:aA9}{k k':aA7}{n:Int}(hx:aV O.g x=some (.v (Fu.int k) n))(ha:tl tb.un A=some da)(hb:tl tb.un B=some (.int k')):JO F ⟨d,.convert A B x,ty,p,af,gd⟩ O (.v (Fu.int k') (k'.wrap n)) []:=Qq (tb.hu.at ha) (tb.hu.at hb) hx
theorem oS[tb:fT F.P]{T U n:aAg}{l:List Slot}{i off:Nat}(hx:aV O.g x=some (.ptr i off))(he:aF O.d i=some (.box T l pb))(ho:jJ l off=some s0)(hy:aV O.g y=some s)(hp:s.plain=true)(hn:tl tb.sz U=some n)(N2:Nat.beq s.sz n=true)(Y4:Nat.beq s0.sz n=true):JM F ⟨none,.store U x y,ty,p,af,gd⟩ O ⟨O.g,(i,.box T (jK l off s) pb)::O.d⟩:=Kh hx he ho hy hp N2 Y4 (tb.hs.at hn)
theorem oW[tb:fT F.P]{T U n:aAg}{l l':List Slot}{i:Nat}(hx:aV O.g x=some (.ptr i 0))(he:aF O.d i=some (.box T l pb))(hy:aV O.g y=some (.agg l'))(hn:tl tb.sz U=some n)(hl:(l.map Slot.sz).sum=n)(U1:(l'.map Slot.sz).sum=n)(hnt:l'.all Slot.plain=true):JM F ⟨none,.store U x y,ty,p,af,gd⟩ O ⟨O.g,(i,.box T l' pb)::O.d⟩:=Aq hx he hl hy U1 hnt (tb.hs.at hn)
theorem oT{b:Bool}(hc:aV O.g c=some (.v Fu.bool b))(hb:b=true)(hx:aV O.g x=some s):JO F ⟨d,.pick c x y,ty,p,af,gd⟩ O s []:=VU hb hc hx
theorem oU{b:Bool}(hc:aV O.g c=some (.v Fu.bool b))(hb:b=false)(hx:aV O.g y=some s):JO F ⟨d,.pick c x y,ty,p,af,gd⟩ O s []:=JG hb hc hx
theorem jo{o:aBa}{new:List (Nat×j2)}(k:JO F o O s new:=by first
 | ((with_reducible apply aZ);exact rfl)
 | ((with_reducible apply dJ);exact rfl)
 | ((with_reducible apply oF);exact rfl;exact rfl;exact rfl;exact rfl;exact rfl)
 | ((with_reducible apply oL);exact rfl;exact rfl;exact rfl;exact rfl;exact rfl)
 | ((with_reducible apply Kd);exact rfl;exact rfl;exact rfl)
 | ((with_reducible apply iO);exact rfl)
 | ((with_reducible apply iB);exact rfl;exact rfl)
 | ((with_reducible apply lI);exact rfl;exact rfl;exact rfl)
 | ((with_reducible apply oE);exact rfl;exact rfl)
 | ((with_reducible apply oI);exact rfl;exact rfl;assumption;exact rfl;exact rfl)
 | ((with_reducible apply oP);exact rfl;exact rfl;exact rfl)
 | ((with_reducible apply oN);exact rfl;exact rfl)
 | ((with_reducible apply oT);exact rfl;(first | assumption | exact rfl);exact rfl)
 | ((with_reducible apply oU);exact rfl;(first | assumption | exact rfl);exact rfl)
 | ((with_reducible apply oZ))
 | ((with_reducible apply oK);exact rfl;exact rfl)
 | ((with_reducible apply oV);exact rfl;exact rfl;exact rfl)
 | ((with_reducible apply Qp);exact rfl)
 | ((with_reducible apply oEr);exact rfl;exact rfl;exact rfl)):JO F o O s new:=k
theorem gk{g:List (Nat×Slot)}{o:aBa}(k:GK ops g o true:=by first
 |exact GK.none rfl
 |exact VX rfl rfl rfl (by first | assumption | exact rfl)):GK ops g o true:=k
theorem gu{g:List (Nat×Slot)}{o:aBa}(k:GK ops g o false:=by exact KR rfl rfl rfl (by first | assumption | exact rfl)):GK ops g o false:=k
theorem jm{o:aBa}(k:JM F o O σ1:=by first
 | ((with_reducible apply oS);exact rfl;exact rfl;exact rfl;exact rfl;exact rfl;exact rfl;exact rfl;exact rfl)
 | ((with_reducible apply oW);exact rfl;exact rfl;exact rfl;exact rfl;exact rfl;exact rfl;exact rfl)):JM F o O σ1:=k
theorem js{o:aBa}(k:J1 F ops o O σ1:=by first
 | (apply J1.o;exact jo;exact gk;exact rfl;exact rfl)
 | (apply J1.w;exact gu;exact rfl)
 | (apply aEm;exact jm;exact gk)):J1 F ops o O σ1:=k
theorem ja(n:Nat){Q:Prop}(k:Q)(h:JA F ops n os O O' Q:=by
 repeat ((with_reducible apply JA.s1);exact js)
 exact JA.z0 λq=>q):J F ops os O O':=h k
def JZ(F:w8)(ops:Array aBa)(ts:List Nat)(os:List aBa)(O O':AS):Prop:=J F ops os O O'
theorem JZ.s1{ts:List Nat}{o:aBa}(h:J1 F ops o O σ1)(k:JZ F ops ts os σ1 O'):JZ F ops ts (o::os) O O':=h k
theorem JZ.z0{ts:List Nat}{g':List (Nat×Slot)}{d':List (Nat×j2)}(hg:Kp O.g ts g')(hd:Nd [] O.d d'):JZ F ops ts [] O ⟨g',d'⟩:=J.fin (KQ hg hd)
theorem jz(ts:List Nat)(h:JZ F ops ts os O O':=by
 repeat (apply JZ.s1;exact js)
 apply JZ.z0
 ·repeat (first | exact .n | (apply Kp.c;exact rfl))
 ·repeat (first | exact .n | (apply Nd.c;exact rfl) | (apply Nd.s;exact rfl))):J F ops os O O':=h
theorem jy(h:JZ F ops [] os O O':=by
 repeat (apply JZ.s1;exact js)
 exact J.fin (bQ [])):J F ops os O O':=h
variable {it:E4}{its:List E4}{id:Nat}{cs:List aBb}
def P1(F:w8)(ops:Array aBa)(OK:List (Nat×j2)->Prop)(o:aBa)(O σ1:AS)(it:E4):Prop:=∀{os:List aBa} {O':AS} {its:List E4},E9 F ops OK os σ1 its O'->E9 F ops OK (o::os) O (it::its) O'
theorem P1.o{o:aBa}{new:List (Nat×j2)}(h:JO F o O s new)(g:GK ops O.g o true)(hd:eR o.dst F.N=true):P1 F ops OK o O ⟨gL o.dst s O.g,new++O.d⟩ ⟨s,new,new,Bv O.g o,[]⟩:=λk=> .cons g h hd k
theorem P1.w{o:aBa}(g:GK ops O.g o false)(hd:eR o.dst F.N=true):P1 F ops OK o O ⟨gL o.dst .top O.g,O.d⟩ ⟨.top,[],[],Bv O.g o,[]⟩:=λk=> .left g hd k
theorem P1.st[tb:fT F.P]{T U n:aAg}{l:List Slot}{i off:Nat}(g:GK ops O.g ⟨none,.store U x y,ty,p,af,gd⟩ true)(hx:aV O.g x=some (.ptr i off))(he:aF O.d i=some (.box T l pb))(ho:jJ l off=some s0)(hy:aV O.g y=some s)(hp:s.plain=true)(hn:tl tb.sz U=some n)(N2:Nat.beq s.sz n=true)(Y4:Nat.beq s0.sz n=true):P1 F ops OK ⟨none,.store U x y,ty,p,af,gd⟩ O ⟨O.g,(i,.box T (jK l off s) pb)::O.d⟩ ⟨.top,[(i,.box T (jK l off s) pb)],[],Bv O.g ⟨none,.store U x y,ty,p,af,gd⟩,[]⟩:=λk=>E9.store g hx he ho hy hp N2 Y4 (tb.hs.at hn) k
theorem p1{o:aBa}(k:P1 F ops OK o O σ1 it:=by first
 | (apply P1.o;exact jo;exact gk;exact rfl)
 | (apply P1.w;exact gu;exact rfl)
 | ((with_reducible apply P1.st);exact gk;exact rfl;exact rfl;exact rfl;exact rfl;exact rfl;exact rfl;exact rfl;exact rfl)):P1 F ops OK o O σ1 it:=k
theorem E9.s1{o:aBa}(h:P1 F ops OK o O σ1 it)(k:E9 F ops OK os σ1 its O'):E9 F ops OK (o::os) O (it::its) O':=h k
theorem aEn(n:Nat)(ts:List Nat)(hm:F.P.follows .mixedOrders=true)(k:W F cs O' Q)(hp:E9 F ops (λ_=>True) (ops.toList.take n) O its σ1:=by
  repeat (apply E9.s1;exact p1)
  exact .nil) (ht:JZ F ops ts (ops.toList.drop n) σ1 O':=by
  repeat (apply JZ.s1;exact js)
  apply JZ.z0
  ·repeat (first | exact .n | (apply Kp.c;exact rfl))
  ·repeat (first | exact .n | (apply Nd.c;exact rfl) | (apply Nd.s;exact rfl)))
  (hn:Nat.ble n ops.size=true:=by rfl) (V9:xS ops=true:=by decide+kernel) (hms:Rd ops (Ga ops)=true:=by decide+kernel) (br:xG ops n (Ga ops)=true:=by decide+kernel) (zq:Tw its (Ga ops)=true:=by kernel_rfl) (yo:Tx O its (Ga ops)=true:=by kernel_rfl):
  W F (.region id ops true::cs) O Q:=Af n hm hp ht k hn V9 hms br zq yo
theorem JW.f(ts:List Nat)(k:W F cs O' Q)(h:JZ F ops ts os O O':=by
 repeat (apply JZ.s1;exact js)
 apply JZ.z0
 ·repeat (first | exact .n | (apply Kp.c;exact rfl))
 ·repeat (first | exact .n | (apply Nd.c;exact rfl) | (apply Nd.s;exact rfl))):JW F ops os cs O Q:=⟨_,h,k⟩
def JWA(F:w8)(ops:Array aBa)(n:Nat)(os:List aBa)(cs:List aBb)(O:AS)(Q:aBd->aBe->aAf->Prop)(R:Prop):Prop:=R->JW F ops os cs O Q
theorem JWA.s1{R:Prop}{n:Nat}{o:aBa}(h:J1 F ops o O σ1)(k:JWA F ops n os cs σ1 Q R):JWA F ops (n+1) (o::os) cs O Q R:=λr=>by
 obtain⟨u,A,k⟩:=k r;exact⟨u,h A,k⟩
theorem JWA.z0:JWA F ops 0 os cs O Q (JW F ops os cs O Q):=λr=>r
theorem JW.a(n:Nat){R:Prop}(k:R)(h:JWA F ops n os cs O Q R:=by
 repeat ((with_reducible apply JWA.s1);exact js)
 exact JWA.z0):JW F ops os cs O Q:=h k
theorem qA{ops:List aBa}(ts:List Nat)(k:W F cs O' Q)(h:JZ F ops.toArray ts ops O O':=by
 repeat (apply JZ.s1;exact js)
 apply JZ.z0
 ·repeat (first | exact .n | (apply Kp.c;exact rfl))
 ·repeat (first | exact .n | (apply Nd.c;exact rfl) | (apply Nd.s;exact rfl))):W F (.region id ops.toArray false::cs) O Q:=pS h k
theorem iZ{ops:List aBa}{y:aBb}(ts:List Nat)(k:W F (y::cs) O' Q)(h:JZ F ops.toArray ts ops O O':=by
 repeat (apply JZ.s1;exact js)
 apply JZ.z0
 ·repeat (first | exact .n | (apply Kp.c;exact rfl))
 ·repeat (first | exact .n | (apply Nd.c;exact rfl) | (apply Nd.s;exact rfl))):W F (.seq (.region id ops.toArray false) y::cs) O Q:=aQ (pS h k)
theorem sZ{ops:List aBa}{y z:aBb}(ts:List Nat)(k:W F (y::z::cs) O' Q)(h:JZ F ops.toArray ts ops O O':=by
 repeat (apply JZ.s1;exact js)
 apply JZ.z0
 ·repeat (first | exact .n | (apply Kp.c;exact rfl))
 ·repeat (first | exact .n | (apply Nd.c;exact rfl) | (apply Nd.s;exact rfl))):W F (.seq (.seq (.region id ops.toArray false) y) z::cs) O Q:=aQ (aQ (pS h k))
theorem fH{ops:List aBa}{y:aBb}(h:JW F ops.toArray ops (y::cs) O Q):W F (.seq (.region id ops.toArray false) y::cs) O Q:=aQ (pZ h)
theorem Lf{ops:List aBa}{y z:aBb}(h:JW F ops.toArray ops (y::z::cs) O Q):W F (.seq (.seq (.region id ops.toArray false) y) z::cs) O Q:=aQ (aQ (pZ h))
end
end
def sB(a b:List Int):Option (List Int):=if a.length+b.length<=4611686018427387904 then some (a++b) else none
theorem C2.append{a b:List Int}(h:C2 a)(k:C2 b):C2 (a++b):=λx u=>(oq.1 u).elim (h x) (k x)
theorem Yn(a b:List Int):jE (a++b)=jE a++jE b:=by
 apply aH5;simp[jE]
theorem Rm{a b:List Int}(ha:C2 a)(hb:C2 b):jE a=jE b↔a=b:=⟨λh=>by grind [Xs],λh=>by rw[h]⟩
theorem KS{a b:List Int}(ha:C2 a)(hb:C2 b):((jE a).toList==(jE b).toList)=decide (a=b):=by
 rw[aIl,beq_iff_eq,aIa,<-Rm ha hb,ByteArray.toList_eq,ByteArray.toList_eq,Array.toList_inj]
 grind [ByteArray.ext]
theorem Ay{l:List Int}(h:C2 l)(hl:l.length<=9223372036854775807)(ρ:Nat->LV)(S:Nat->Prop)(w:aAf):(Slot.v Fu.str l).ok ρ S w (.string (jE l)):=tD.2 ⟨rfl,h,hl⟩
section
variable {d:Option Tmp}{x y z:aAp}{T T':aAg}{a b c:List Int}
theorem Eg{xs:Array aAp}{ρ:Nat->LV}{S:Nat->Prop}{q:aBe}{w:aAf}(K:M4 O xs ρ S q w)(hm:x∈xs)(hx:aV O.g x=some (.v Fu.str a)):q.eval x= .string (jE a)/\C2 a/\a.length<=9223372036854775807:=by
 have h:=K.slot x hm _ hx;exact tD.1 h
theorem eV(h:sB a b=some c)(hx:aV O.g x=some (.v Fu.str a))(hy:aV O.g y=some (.v Fu.str b)):JO F ⟨d,.binOp .add T x y T',ty,p,af,gd⟩ O (.v Fu.str c) []:=by
 intro ρ S q w K;obtain⟨A,B,G⟩:=Eg K (by simp[Op.operands]) hx;obtain⟨C,D,I⟩:=Eg K (by simp[Op.operands]) hy;unfold sB at h;split at h
 ·rename_i E;cases h;refine j6.value (w':=w) ?_ (y9.same (Ay (B.append D) (by simp;omega) ρ S w));have u:IntKind.i64.max=9223372036854775807:=by decide
  simp[execOp,A,C,eqGuard,binOp,Op.stringOp,gN,Yn,u];omega
 ·cases h
theorem Eh(hx:aV O.g x=some (.v Fu.str a))(hy:aV O.g y=some (.v Fu.str b)):JO F ⟨d,.binOp .eql T x y T',ty,p,af,gd⟩ O (.v Fu.bool (decide (a=b))) []:=by
 intro ρ S q w K;obtain⟨u,A,B⟩:=Eg K (by simp[Op.operands]) hx;obtain⟨C,D,E⟩:=Eg K (by simp[Op.operands]) hy;refine j6.value ?_ (y9.same (iA _ ρ S w))
 simp_all [execOp,eqGuard,binOp,Op.stringOp,KS]
theorem KU(hx:aV O.g x=some (.v Fu.str a))(hy:aV O.g y=some (.v Fu.str b)):JO F ⟨d,.binOp .neq T x y T',ty,p,af,gd⟩ O (.v Fu.bool (!decide (a=b))) []:=by
 intro ρ S q w K;obtain⟨u,A,B⟩:=Eg K (by simp[Op.operands]) hx;obtain⟨C,D,E⟩:=Eg K (by simp[Op.operands]) hy;refine j6.value ?_ (y9.same (iA _ ρ S w))
 simp_all [execOp,eqGuard,binOp,Op.stringOp,KS]
theorem FM{k:aA7}{m v:Int}(hz:Sw.idx a m=some v)(hx:aV O.g x=some (.v Fu.str a))(hy:aV O.g y=some (.v (Fu.int k) m))(hT:∀w,(underlying T).run F.P w= .ok .string w):JO F ⟨d,.index T x y,ty,p,af,gd⟩ O (.v (Fu.int .u8) v) []:=by
 intro ρ S q w K;obtain⟨A,B,G⟩:=Eg K (by simp[Op.operands]) hx;obtain⟨C,_⟩:=dC K (by simp[Op.operands]) hy;obtain⟨D,I,u⟩:=iX hz;have E:=B v (aEd u);refine j6.value (w':=w) ?_ (y9.same (pE ⟨by show (0:Int)<=v;omega,by show v<=255;omega⟩ ρ S w));have:(jE a)[m.toNat]? =some (UInt8.ofNat v.toNat):=by
  show (jE a).data[m.toNat]? =_;simp[jE,u]
 simp[execOp,A,C,Instr.index,asIntOf,hT,D,this];omega
theorem FN{k k':aA7}{m n:Int}(hz:Sw.sub a m n=some c)(hx:aV O.g x=some (.v Fu.str a))(hy:aV O.g y=some (.v (Fu.int k) m))(hn:aV O.g z=some (.v (Fu.int k') n))(hT:∀w,(underlying T).run F.P w= .ok .string w):JO F ⟨d,.slice T x (some y) (some z) none,ty,p,af,gd⟩ O (.v Fu.str c) []:=by
 intro ρ S q w K;obtain⟨C,D,L⟩:=Eg K (by simp[Op.operands]) hx;obtain⟨E,_⟩:=dC K (by simp[Op.operands]) hy;obtain⟨G,_⟩:=dC K (by simp[Op.operands]) hn;obtain⟨I,M,u,rfl⟩:=eB hz;refine j6.value (w':=w) ?_ (y9.same (Ay (λv u=>D v (aE8 (aGi u))) (by simp;omega) ρ S w));have e:(jE a).extract m.toNat n.toNat=jE ((a.take n.toNat).drop m.toNat):=by
  unfold jE;rw[ByteArray.extract_mk,<-List.map_drop,<-List.map_take,aH9]
 have A:0<=n:=by omega
 have B:m<=max n 0:=by omega
 simp[execOp,C,E,G,Instr.sliceAt,Instr.slice,Instr.sliceBounds,Instr.sliceBound,asIntOf,hT,I,A,B,u,gN,e]
theorem KV{k:aA7}{m:Int}(hz:Sw.sub a m (a.length:Int)=some c)(hx:aV O.g x=some (.v Fu.str a))(hy:aV O.g y=some (.v (Fu.int k) m))(hT:∀w,(underlying T).run F.P w= .ok .string w):JO F ⟨d,.slice T x (some y) none none,ty,p,af,gd⟩ O (.v Fu.str c) []:=by
 intro ρ S q w K;obtain⟨A,B,G⟩:=Eg K (by simp[Op.operands]) hx;obtain⟨C,_⟩:=dC K (by simp[Op.operands]) hy;obtain⟨D,E,u,rfl⟩:=eB hz;refine j6.value (w':=w) ?_ (y9.same (Ay (λv u=>B v (aE8 (aGi u))) (by simp;omega) ρ S w));have e:(jE a).extract m.toNat a.length=jE ((a.take (a.length:Int).toNat).drop m.toNat):=by
  grind [jE,ByteArray.extract_mk,List.map_drop,List.map_take,List.drop_take]
 simp[execOp,A,C,Instr.sliceAt,Instr.slice,Instr.sliceBounds,Instr.sliceBound,asIntOf,hT,D,E,gN,e]
theorem Oy{S:Nat->Prop}{w:aAf}:∀{xs:List Int} {cs:List aA4},(Fu.int .u8).H8 xs S w cs->cs=xs.map (Value.int .u8)/\C2 xs
 | [],cs,h=>⟨h,(λ_ h=>nomatch h)⟩
 |x::xs,cs,h=>by
  obtain⟨c,E,rfl,B,C⟩:=h;obtain⟨rfl,D⟩:=Oy C;obtain⟨rfl,u⟩:=B;exact⟨rfl,λb A=>(sK.1 A).elim (λe=>by subst e;exact⟨u.1,u.2⟩) (D b)⟩
theorem FO(l:List Int):∀s:ByteArray,l.foldl (λr n=>r.push (UInt8.ofNat n.toNat)) s=s++jE l:=by
 induction l with
 |nil=>grind [ByteArray.ext,ByteArray.data_append,jE]
 |cons n l u=>
  intro s;rw[xz,u];apply aH5;simp[jE,ByteArray.push]
theorem Az{A B E:aAg}(hA:∀w,(underlying A).run F.P w= .ok (.slice E) w)(hE:∀w,(underlying E).run F.P w= .ok (.int .u8) w)(hB:∀w,(underlying B).run F.P w= .ok .string w)(hx:aV O.g x=some (.v (Fu.sl (Fu.int .u8)) a)):JO F ⟨d,.convert A B x,ty,p,af,gd⟩ O (.v Fu.str a) []:=by
 intro ρ S q w K;obtain⟨u,C,I,⟨R,T⟩,L⟩:=Tq K (x:=x) (by simp[Op.operands]) hx;have D:C2 a/\(Conv.bytesToString (.slice u a.length C)).run F.P w= .ok (.string (jE a)) w:=by
  rcases L with rfl |⟨b,U,V,rfl,X,hS,N,Q⟩
  ·refine⟨(λ_ h=>nomatch h),?_⟩;cases u with
   |none=>rfl
   |some u=>exact run_bytesToString w u 0 C [] (by simp[loadCells,loadCellsFrom])
  ·obtain⟨rfl,M⟩:=Oy Q;refine⟨M,?_⟩
   rw[run_bytesToString w _ _ C a (by
    have G:(a.map (Value.int .u8)).length=a.length:=sv _
    rw[<-G,run_loadCells_list w _ _ N.cell]),FO]
   congr 2
 refine j6.value (w':=w) (v:= .string (jE a)) ?_ (y9.same (Ay D.1 (by omega) ρ S w));have:(convert A B (.slice u a.length C)).run F.P w= .ok (.string (jE a)) w:=by rw[<-D.2];simp[convert,hA,hE,hB]
 simp[execOp,I,this]
end
class GO (o:outParam (List Obj)):Prop where
 tab:∃T,o[1]? =some (.cells (Lib.pow10Tab.map λz=>Value.int .u64 z).toArray T (0,0))
 mx:∃(m:Int) (T:aAg) (fz:Nat×Nat),o[0]? =some (.cells #[.int .i64 m] T fz)
theorem O4.back{P:aA5}{f:aA6}{ss:List Slot}{res:Slot}(h:∀S w vs ρ,(∀k,S k->k<w.heap.size)->aG ρ S w ss vs->Calls P f vs.toArray w λe w'=>∃v,e= .returned v/\Below w.heap.size w w'/\res.ok ρ S w' v):O4 P f ss res []:=by
 intro S w vs ρ hl hv;refine(h S w vs ρ hl hv).mono ?_;rintro e w' ⟨v,rfl,A,C⟩;exact⟨v,rfl,ρ,λ_ _=>rfl,A,by grind [Un.none],λi u h=>by grind [aF],λi u b h=>by grind [aF],λi j u B b h=>by simp[aF]⟩
theorem A3.back{P:aA5}{f:aA6}{ss:List Slot}{C5:List (Nat×j2)}{res:Slot}(h:∀S w vs ρ,(∀k,Un S ρ C5 k->k<w.heap.size)->Ins S ρ w C5->aG ρ (Un S ρ C5) w ss vs->Calls P f vs.toArray w λe w'=>∃v,e= .returned v/\Below w.heap.size w w'/\res.ok ρ (Un S ρ C5) w' v):A3 P f ss C5 res C5:=by
 intro S w vs ρ hl hi hv;have D:∀k,Un S ρ C5 k->k<w.heap.size:=by
  rintro k (h |⟨i,A,G,I⟩)
  ·grind
  ·exact hi.lt i A k G I
 refine(h S w vs ρ D hi hv).mono ?_;rintro e w' ⟨v,rfl,u,K⟩;have E:Ext (Un S ρ C5) (Un S ρ C5) w w':=⟨u.size,λk C F=>⟨u.block k C,F⟩⟩;exact⟨v,ρ,rfl,u.size,λk C _=>u.block k C,u.os,u.tape,u.output,K,λi A h=>j2.j5 (hi.own i A h) E (λ_ _=>rfl) (λb B=>u.block b (hi.lt i A b h B)),λi A b h B=>⟨.inr ⟨i,A,h,B⟩,gn (hi.lt i A b h B) u.size⟩,hi.apart,hi.inj⟩
theorem RW{ρ S w}{s:Slot}{vs:List aA4}(h:aG ρ S w [s] vs):∃u,vs=[u]/\s.ok ρ S w u:=by
 grind [aG]
theorem FP{ρ S w}{s s':Slot}{vs:List aA4}(h:aG ρ S w [s,s'] vs):∃u u',vs=[u,u']/\s.ok ρ S w u/\s'.ok ρ S w u':=by
 grind [aG]
theorem Ei{s:ByteArray}(hl:s.size<=9223372036854775807)(ρ:Nat->LV)(S:Nat->Prop)(w:aAf):(Slot.v Fu.str (lb s)).ok ρ S w (.string s):=by
 grind [Ay,Ja,Qn,Qm]
def ub(l:List Int):List UInt8:=l.map λn=>UInt8.ofNat n.toNat
def ui(l:List UInt8):List Int:=l.map λb=>(b.toNat:Int)
theorem sC(l:List Int):(jE l).data.toList=ub l:=by simp[jE,ub]
theorem Oz(l:List UInt8):lb ⟨l.toArray⟩=ui l:=by simp[lb,ui]
theorem Lg{l:List Int}(h:C2 l):ui (ub l)=l:=by
 have:=Xs h;exact this
def Lh(a b:List Int):Option (List Int):=if b.length<4294967281/\∀x∈b,x<128 then some (ui (Lib.trimS (ub a) (ub b))) else none
def KW(a:List Int)(c:Int):Option Int:=some (Lib.indexByte (ub a) (UInt8.ofNat c.toNat))
def Uk(a:List Int):Option (Int×Option Int):=match Lib.atoi (ub a) with | some n=>if a.length<=18/\zY .i64 n then some (n,none) else none | none=>none
def Ba(n:Int):Option (List Int):=some (ui (Lib.itoa n))
def fuT(n b:Int):Option (List Int):=if b=10 then some (ui (Lib.decDigits n.toNat)) else none
def Pa(l:List (List Int))(s:List Int):Option (List Int):=if (Lib.join (l.map ub) (ub s)).length<=140737488355328 then some (ui (Lib.join (l.map ub) (ub s))) else none
def Da(a s:List Int):Option (List (List Int)):=if a.length<4294967281/\1<=s.length then some ((Lib.splitB (jE s) 0 (Lib.countB (jE a) (jE s)) (jE a)).map lb) else none
def Pb(a s:List Int):Option (List Int):=some (ui (Lib.trimSuffix (ub a) (ub s)))
def Yo(s:List Int):Option (List Int):=some s
def ln:List Int->List (List Int)
 | []=>[]
 |b::l=>if b=10 then [10]::ln l else match ln l with
  | []=>[[b]]
  |x::r=>(b::x)::r
instance:PK Fu.str .string:=⟨λ{S S' w w' x y u v} h k=>by
 obtain⟨rfl,b1,_⟩:=tD.1 h;obtain⟨rfl,b2,_⟩:=tD.1 k;have:(jE x==jE y)=decide (x=y):=by
  have h0:(jE x==jE y)=((jE x).data==(jE y).data):=rfl;rw[h0,aIl,beq_iff_eq,aIa,<-Rm b1 b2];exact⟨λh=>aH5 h,λh=>by rw[h]⟩
 simp[Instr.sameNow,this]⟩
theorem C7.str{P:aA5}{T:aAg}(h:∀w,(underlying T).run P w= .ok .string w):C7 1 P T Fu.str:=by
 intro d hd u w S A x cs B;obtain⟨d,rfl⟩:∃d',d=d'+1:=⟨d - 1,by omega⟩;simp[Instr.checkKey,h,Fu.pk,Fu.str]
theorem Z.fns(gs:List aA6)(i:Nat)(hi:gs[i]? =none):∀S w,(Fu.fns gs).ok i S w [.nilFunc]:=λ_ _=> .inr ⟨hi,rfl⟩
instance (gs:List aA6):F7 (Fu.fns gs):=⟨λh=>h⟩
section
variable {d:Option Tmp}{x y z q:aAp}
theorem Arg.fns{F8:Bool}{g:aA6}(gs:List aA6)(i:Nat)(h:gs[i]? =some g):Arg O F8 (.func g) (.v (Fu.fns gs) i):=λρ S a w K=>⟨_,.inl ⟨g,h,rfl⟩,rfl⟩
theorem Yp{T U:aAg}{e:Option Int}(hx:aV O.g x=some (.v (Fu.err T) e))(hT:∀w,(underlying T).run F.P w= .ok (.int .i64) w)(hz:∀w,(zeroValue T).run F.P w= .ok (.int .i64 0) w):JO F ⟨d,.typeAssert x U T true,ty,p,af,gd⟩ O (.q9 [.v (Fu.int .i64) (e.getD 0),.v Fu.bool e.isSome]) []:=by
 intro ρ S a w K;have u:=K.slot x (by simp[Op.operands]) _ hx;simp only[Slot.ok] at u;have fin:∀(n:Int) (b:Bool),zY .i64 n->(Slot.q9 [.v (Fu.int .i64) n,.v Fu.bool b]).ok ρ S w (.tuple #[.int .i64 n,.bool b]):=λn b h=>by
  simp only[Slot.ok,aG];exact⟨[_,_],rfl,_,_,rfl,lG.2 ⟨rfl,h⟩,_,_,rfl,wI.2 rfl,rfl⟩
 cases e with
 |none=>
  have A:=qM.1 u;exact j6.value (w':=w) (by simp[execOp,A,Instr.typeAssert,hT,hz]) (y9.same (fin 0 false (by decide)))
 |some n=>
  obtain⟨A,B⟩:=vO.1 u;exact j6.value (w':=w) (by simp[execOp,A,Instr.typeAssert,hT]) (y9.same (fin n true B))
def FQ{α:Type}(xs:List α)(m n:Int):Option (List α):=if m=xs.length/\n=xs.length then some xs else none
theorem BX{α:Type}{e:Fu α}{xs ys:List α}{m n:Int}{k k':aA7}{U E:aAg}(hs:FQ xs m n=some ys)(hx:aV O.g x=some (.v (Fu.sl e) xs))(hy:aV O.g y=some (.v (Fu.int k) m))(hz:aV O.g z=some (.v (Fu.int k') n))(hU:∀w,(underlying U).run F.P w= .ok (.slice E) w)(hE:∀w,(sizeOf E).run F.P w= .ok e.n w):JO F ⟨d,.slice U x none (some y) (some z),ty,p,af,gd⟩ O (.v (zD e) ys) []:=by
 intro ρ S a w K;unfold FQ at hs;split at hs<;>cases hs;rename_i L;obtain⟨rfl,rfl⟩:=L;obtain⟨u,A,N,Q,B⟩:=Tq K (x:=x) (by simp[Op.operands]) hx;have C:=(dC K (x:=y) (by simp[Op.operands]) hy).1;have D:=(dC K (x:=z) (by simp[Op.operands]) hz).1;refine j6.value (w':=w) (v:= .slice u xs.length xs.length) ?_ (y9.same ?_)
 ·have G:(xs.length:Int)<=(A:Int):=by omega
  have I:(Instr.sliceBounds true xs.length A none (some (.int k xs.length)) (some (.int k' xs.length))).run F.P w= .ok (0,xs.length,xs.length) w:=by
   simp only[Instr.sliceBounds,Instr.sliceBound,asIntOf,Sem.run_bind,Sem.run_pure,Result.andThen_ok,Int.natCast_nonneg,G,aG4,aIe,K4,gR]
  simp[execOp,Instr.sliceAt,Instr.slice,N,C,D,hU,hE,I];intro M;obtain⟨b,R,T,rfl,_⟩:=B.resolve_left M;simp[Addr.add_lit]
 ·simp only[Slot.ok];exact⟨_,⟨⟨u,xs.length,rfl,⟨gC _,Q.2⟩,B⟩,λ_ _ _ h=>by cases h;rfl⟩,rfl⟩
end
def xI(p:Bool)(b:Nat):aA4:= .pointer (if p then some ⟨b,0,none⟩ else none)
def wN(l:List Int):List aA4:=l.map (.int .u8)
def DE.C6{δ:Type}(T e:aAg)(f:Fu δ):DE (Nat×Bool×List Int×Int×List δ) where
 ok q S w u _:=u.v= .pointer (some ⟨q.1,0,none⟩)/\∃v sl,w.heap[q.1]? =some (.cells #[xI q.2.1 q.1,v,.int .i64 q.2.2.2.1,sl] T (0,0))/\zY .i64 q.2.2.2.1/\(Fu.sl f).ok q.2.2.2.2 S w [sl]/\C2 q.2.2.1/\
  w.ownsRow 0 e 1 v q.2.2.1.length (wN q.2.2.1)/\(v= .slice none 0 0↔q.2.2.1=[])/\∀g,v.ownBlock=some g->g≠q.1/\mS u g
 mono:=by
  rintro q S R w U u l ⟨A,v,sl,E,F,G,I,B,K,C⟩ L D;refine⟨A,v,sl,by rw[D q.1 (.inl (by rw[A];rfl))];exact E,F,(Fu.sl f).mono G L,I,⟨B.1,B.2.imp id ?_⟩,K,C⟩;rintro⟨g,M,N,rfl,O,P,Q⟩;exact⟨g,M,N,rfl,O,by rw[D g (C g rfl).2];exact P,Q⟩
theorem Hw{δ:Type}{T e:aAg}{f:Fu δ}{x y:Nat×Bool×List Int×Int×List δ}(h:x.1=y.1):∀S S' w w' u u',(DE.C6 T e f).ok x S' w' u' []->(DE.C6 T e f).ok y S w u []->u'.v=u.v:=
 λ_ _ _ _ _ _ A B=>by rw[A.1,B.1,h]
theorem Core.chu{F:w8}{d:List (Nat×j2)}{ρ:Nat->LV}{w w':aAf}{i:Nat}{en en':j2}(u:LV)(hc:Core F d ρ w)(hi:aF d i=some en)(hz:w.heap.size<=w'.heap.size)(oe:∀k,k<w.heap.size->¬mS (ρ i) k->w'.heap[k]? =w.heap[k]?)(ho:w'.os=w.os)(ht:w'.tape=w.tape)(hp:w'.output=w.output)(hu:∀k,mS u k->(mS (ρ i) k\/w.heap.size<=k)/\k<w'.heap.size)(hv:u.v=(ρ i).v)(Z7:∀ρ' S',Ext (Un F.S0 ρ d) S' w w'->en'.ok ρ' S' w' u):∃ρ',Core F ((i,en')::d) ρ' w'/\Ext (Un F.S0 ρ d) (Un F.S0 ρ' ((i,en')::d)) w w'/\∀j,(ρ' j).v=(ρ j).v:=by
 refine⟨λj=>if j=i then u else ρ j,?_⟩;have G:∀j e,aF ((i,en')::d) j=some e->(j=i/\e=en')\/(j≠i/\aF d j=some e):=by
  intro j e h;rw[bA] at h;split at h
  ·rename_i N;cases h;exact .inl ⟨N.symm,rfl⟩
  ·rename_i N;exact .inr ⟨λe=>N e.symm,h⟩
 have L:∀j e k,aF d j=some e->mS (ρ j) k->k<w.heap.size:=λj e k B I=>(hc.fresh j e k B I).2;have M:Ext (Un F.S0 ρ d) (Un F.S0 (λj=>if j=i then u else ρ j) ((i,en')::d)) w w':=by
  refine⟨hz,λk D K=>⟨oe k D λh=>K (.inr ⟨i,en,hi,h⟩),?_⟩⟩;rintro (h |⟨j,e,B,I⟩)
  ·exact K (.inl h)
  ·rcases G j e B with⟨rfl,rfl⟩|⟨C,B⟩
   ·simp only[K4] at I;rcases (hu k I).1 with h | h
    ·exact K (.inr ⟨j,en,hi,h⟩)
    ·omega
   ·simp only[nS C] at I;exact K (.inr ⟨j,e,B,I⟩)
 have P:∀j,((λj=>if j=i then u else ρ j) j).v=(ρ j).v:=λj=>by
  show (if j=i then u else ρ j).v=_;split
  ·rename_i h;rw[h];exact hv
  ·rfl
 refine⟨⟨hc.low,eo hc.size hz,λk D Q=>?_,ho.trans hc.os,ht.trans hc.tape,hp.trans hc.output,λj e h=>?_,λj e k h A=>?_,λj R e S k h V A E=>?_,λj e k h A=>?_⟩,M,P⟩
 ·rw[oe k (gn D hc.size) (λh=>?_)]
  ·exact hc.frame k D Q
  ·rcases (hc.fresh i en k hi h).1 with h | h
   ·omega
   ·exact Q h
 ·rcases G j e h with⟨rfl,rfl⟩|⟨C,h⟩
  ·simp only[K4];exact Z7 _ _ M
  ·simp only[nS C];exact j2.j5 (hc.own j e h) M (λl _=>P l) λk D=>oe k (L j e k h D) λX=>C (hc.inj j i e en k h hi D X)
 ·rcases G j e h with⟨rfl,rfl⟩|⟨C,h⟩
  ·simp only[K4] at A;refine⟨?_,(hu k A).2⟩;rcases (hu k A).1 with B | B
   ·exact(hc.fresh j en k hi B).1
   ·exact .inl (eo hc.size B)
  ·simp only[nS C] at A;exact⟨(hc.fresh j e k h A).1,gn (hc.fresh j e k h A).2 hz⟩
 ·rcases G j e h with⟨rfl,rfl⟩|⟨C,g⟩<;>rcases G R S V with⟨rfl,rfl⟩|⟨T,O⟩
  ·rfl
  ·simp only[K4] at A;simp only[nS T] at E;rcases (hu k A).1 with B | B
   ·exact hc.inj _ _ _ _ k hi O B E
   ·have:=L R S k O E;omega
  ·simp only[K4] at E;simp only[nS C] at A;rcases (hu k E).1 with B | B
   ·exact hc.inj _ _ _ _ k g hi A B
   ·have:=L j e k g A;omega
  ·simp only[nS C] at A;simp only[nS T] at E;exact hc.inj _ _ _ _ k g O A E
 ·rcases G j e h with⟨rfl,rfl⟩|⟨C,h⟩
  ·simp only[K4] at A;rcases (hu k A).1 with B | B
   ·exact hc.apart j en k hi B
   ·intro U;have:=hc.low k U;have:=hc.size;omega
  ·simp only[nS C] at A;exact hc.apart j e k h A
def Fu.dz:Fu Unit where
 n:=4
 agg:=true
 ok _ _ _ cs:=cs=[.pointer none,.slice none 0 0,.int .i64 0,.slice none 0 0]
 len h:=by rw[h];rfl
 one h:=by cases h
 cell h c hc:=by rw[h] at hc;simp at hc;rcases hc with rfl | rfl | rfl | rfl<;>rfl
 mono h _:=h
def FR(l s:List Int):Option (List Int):=if l.length+s.length<=140737488355328 then some (l++s) else none
theorem Yq{s:List Int}(h:C2 s):Lib.strCells (jE s)=wN s:=by
 have u:s=(jE s).data.toList.map λb=>(b.toNat:Int):=(Xs h).symm
 conv=>rhs;rw[u]
 simp[Lib.strCells,wN]
section
variable {d:Option Tmp}{x y z:aAp}{δ:Type}{T e:aAg}{f:Fu δ}{i:Nat}{q:Nat×Bool×List Int×Int×List δ}
theorem Ul{pl:Array (Nat×Nat)}(hB:∀parts,F.P.built T parts=Instr.fill (pl[·]?) [Value.pointer none,.slice none 0 0,.int .i64 0,.slice none 0 0].toArray parts):JO F ⟨d,.build T #[],ty,p,af,gd⟩ O (.v Fu.dz ()) []:=by
 intro ρ S a w K;refine j6.value (w':=w) (v:= .agg #[.pointer none,.slice none 0 0,.int .i64 0,.slice none 0 0]) ?_ (y9.same (by simp only[Slot.ok];exact⟨_,rfl,rfl⟩));have:=run_build (P:=F.P) w T #[] #[.pointer none,.slice none 0 0,.int .i64 0,.slice none 0 0] (by rw[hB];rfl);simp[execOp,this]
theorem XR(e:aAg)(f:Fu δ){T:aAg}{cs:List aBb}{Q:aBd->aBe->aAf->Prop}(he:aF O.d i=some (.box T [.v Fu.dz ()] none))(h:∀c,W F cs ⟨O.g,(i,.dp (DE.C6 T e f) (c,false,[],0,[]) [])::O.d⟩ Q):W F cs O Q:=by
 rintro a w ⟨⟨ρ,u,L⟩,M,hd⟩;obtain⟨⟨b,cs,D,E,B⟩,_⟩:=u.own i _ he;simp only[aL,Slot.I2] at B;obtain⟨_,_,rfl,rfl,rfl⟩:=B;obtain⟨ρ',G,I,K⟩:=u.chu (w':=w) (en':= .dp (DE.C6 T e f) (b,false,[],0,[]) []) (ρ i) he (gC _) (λ_ _ _=>rfl) rfl rfl rfl (λk A=>⟨.inl A,(u.fresh i _ k he A).2⟩) rfl λ_ _ _=>
  ⟨D,.slice none 0 0,.slice none 0 0,E,(show zY .i64 0 by decide),⟨none,0,rfl,⟨gC _,aHd _⟩,.inl rfl⟩,(λ_ h=>nomatch h),⟨rfl,.inl ⟨rfl,rfl⟩⟩,by simp,(λg h=>nomatch h)⟩
 exact h b a w ⟨⟨ρ',G,λt z C=>Slot.j5 z _ (L t z C) I (λj _=>K j)⟩,M,hd⟩
theorem Ej{u:LV}{b:Nat}(h:u.v= .pointer (some ⟨b,0,none⟩)):mS u b:= .inl (by rw[h];rfl)
theorem Bb(hx:aV O.g x=some (.ptr i 2))(he:aF O.d i=some (.dp (DE.C6 T e f) q []))(hA:∀w,(isAgg U).run F.P w= .ok false w):JO F ⟨d,.load U x,ty,p,af,gd⟩ O (.v (Fu.int .i64) q.2.2.2.1) []:=by
 intro ρ S a w K;have h:=K.slot x (by simp[Op.operands]) _ hx;simp only[Slot.ok] at h;obtain⟨B,v,sl,C,D,_⟩:=(K.U4 x (by simp[Op.operands]) _ hx i (by simp[Slot.E1]) _ he).1;rw[B] at h;have u:a.eval x= .pointer (some ⟨q.1,2,none⟩):=h.2;have A:w.cell? ⟨q.1,2,none⟩=some (.int .i64 q.2.2.2.1):=by simp[World.cell?,C]
 refine j6.value (w':=w) ?_ (y9.same (lG.2 ⟨rfl,D⟩));simp[execOp,u,Instr.loadAt,Instr.sureAddr,loadVar,hA,A]
theorem uF(hx:aV O.g x=some (.ptr i 3))(he:aF O.d i=some (.dp (DE.C6 T e f) q []))(hA:∀w,(isAgg U).run F.P w= .ok false w):JO F ⟨d,.load U x,ty,p,af,gd⟩ O (.v (Fu.sl f) q.2.2.2.2) []:=by
 intro ρ S a w K;have h:=K.slot x (by simp[Op.operands]) _ hx;simp only[Slot.ok] at h;obtain⟨B,v,sl,C,_,D,_⟩:=(K.U4 x (by simp[Op.operands]) _ hx i (by simp[Slot.E1]) _ he).1;rw[B] at h;have u:a.eval x= .pointer (some ⟨q.1,3,none⟩):=h.2;have A:w.cell? ⟨q.1,3,none⟩=some sl:=by simp[World.cell?,C]
 refine j6.value (w':=w) (v:=sl) ?_ (y9.same (⟨_,D,rfl⟩));simp[execOp,u,Instr.loadAt,Instr.sureAddr,loadVar,hA,A]
theorem Um{P:aA5}{w:aAf}{b off:Nat}{pre post:List aA4}{c v:aA4}(hS:∀w,(sizeOf U).run P w= .ok 1 w)(h:w.heap[b]? =some (.cells (pre++([c]++post)).toArray T (0,0)))(ho:pre.length=off)(hv:v.oneCell'=true):(storeVar U ⟨b,off,none⟩ v).run P w= .ok () (w.setRow b (pre++([v]++post)).toArray)/\(w.setRow b (pre++([v]++post)).toArray).heap[b]? =some (.cells (pre++([v]++post)).toArray T (0,0)):=by
 have u:=Dr hv;have:=jF (v:=v) hS (by grind) (by grind) h ho rfl
 grind [setRow_heap]
theorem Uo{w:aAf}{b:Nat}{cs:Array aA4}{v:aA4}{n:Nat}{xs:List aA4}{c0:Array aA4}(hb:w.heap[b]? =some (.cells c0 T (0,0)))(h:w.ownsRow 0 e 1 v n xs)(G4:∀g,v.ownBlock=some g->g≠b):(w.setRow b cs).ownsRow 0 e 1 v n xs:=by
 refine⟨h.1,h.2.imp id ?_⟩;rintro⟨g,u,A,rfl,B,D,C⟩;exact⟨g,u,A,rfl,B,by rw[setRow_other w b g cs (G4 g rfl)];omega,C⟩
theorem VY{xs:Array aAp}{ρ:Nat->LV}{S:Nat->Prop}{a:aBe}{w:aAf}(K:M4 O xs ρ S a w)(hm:x∈xs):M4 O #[x] ρ S a w:=
 ⟨K.low,λy u s h=>by
  have:y=x:=by grind
  subst this;exact K.slot y hm s h,λy u s h=>by
   have:y=x:=by grind
   subst this;exact K.U4 y hm s h⟩
theorem KX{m:Int}(hx:aV O.g x=some (.ptr i 2))(he:aF O.d i=some (.dp (DE.C6 T e f) q []))(hy:Arg O false y (.v (Fu.int .i64) m))(hS:∀w,(sizeOf U).run F.P w= .ok 1 w):JM F ⟨none,.store U x y,ty,p,af,gd⟩ O ⟨O.g,(i,.dp (DE.C6 T e f) (q.1,q.2.1,q.2.2.1,m,q.2.2.2.2) [])::O.d⟩:=by
 refine lC he rfl λρ a w A E=>?_;have K:=aY A E (Op.store U x y).operands;have h:=K.slot x (by simp[Op.operands]) _ hx;simp only[Slot.ok] at h;obtain⟨u,v,sl,B,h3,L,M,N,Q,C⟩:=A.own i _ he;rw[u] at h;have D:=hy ρ _ a w (VY K (by simp[Op.operands]));obtain⟨R,S⟩:=lG.1 D;obtain⟨V,X⟩:=Um (P:=F.P) (U:=U) (pre:=[xI q.2.1 q.1,v]) (c:= .int .i64 q.2.2.2.1) (post:=[sl]) (v:= .int .i64 m) hS B rfl rfl;refine⟨q.1,_,Ej u,ff.setRow w q.1 _,iC h.2 (by rw[R];exact V),λG=>?_⟩;exact⟨u,v,sl,X,S,(Fu.sl f).mono L G,M,Uo B N (λg I=>(C g I).1),Q,C⟩
theorem Pc{sc:List δ}(hx:aV O.g x=some (.ptr i 3))(he:aF O.d i=some (.dp (DE.C6 T e f) q []))(hy:Arg O false y (.v (Fu.sl f) sc))(hS:∀w,(sizeOf U).run F.P w= .ok 1 w):JM F ⟨none,.store U x y,ty,p,af,gd⟩ O ⟨O.g,(i,.dp (DE.C6 T e f) (q.1,q.2.1,q.2.2.1,q.2.2.2.1,sc) [])::O.d⟩:=by
 refine lC he rfl λρ a w C I=>?_;have K:=aY C I (Op.store U x y).operands;have h:=K.slot x (by simp[Op.operands]) _ hx;simp only[Slot.ok] at h;obtain⟨u,v,sl,D,N,h4,Q,R,S,E⟩:=C.own i _ he;rw[u] at h;have G:=hy ρ _ a w (VY K (by simp[Op.operands]));obtain⟨A,B,V,X⟩:=lY.1 G;obtain⟨r1,r2⟩:=Um (P:=F.P) (U:=U) (pre:=[xI q.2.1 q.1,v,.int .i64 q.2.2.2.1]) (c:=sl) (post:=[]) (v:= .slice A sc.length B) hS D rfl rfl;refine⟨q.1,_,Ej u,ff.setRow w q.1 _,iC h.2 (by rw[V];exact r1),λL=>?_⟩;exact⟨u,v,.slice A sc.length B,r2,N,(Fu.sl f).mono ⟨A,B,rfl,X⟩ L,Q,Uo D R (λg M=>(E g M).1),S,E⟩
end
theorem RX{P:aA5}(w:aAf)(t u ty e:aAg)(i:TypeInfo)(ht:P.underlying t=some (.slice e))(hu:P.underlying u=some .string)(hi:P.info? e=some i)(hz:i.zero=some (.int .u8 0))(qo:i.size=1)(cx:i.bytes=1)(v:aA4)(n:Nat)(xs:List aA4)(I1:w.ownsRow 0 e 1 v n xs)(s:ByteArray)(wv:n+s.size<=140737488355328):∃v' w',(Builtin.append_ #[t,u] ty #[v,.string s]).run P w= .ok v' w'/\w'.ownsRow 0 e 1 v' (n+s.size) (xs++Lib.strCells s)/\w.grownBy w' v.ownBlock/\(v'= .slice none 0 0↔v= .slice none 0 0/\s.size=0)/\∀g,v'.ownBlock=some g->v.ownBlock=some g\/w.heap.size<=g:=by
 have D:n+s.size<=maxLen:=by unfold maxLen;omega
 obtain⟨v',w',B,G,I,K⟩:=Lib.run_append_own_string (P:=P) w 0 t u ty e i ht hu hi hz qo cx v n xs I1 s D wv (aHd _);refine⟨v',w',B,G,I,K,λO A=>?_⟩;rcases I1.2 with⟨rfl,rfl⟩|⟨g,C,M,rfl,_,N,S,T,U,V⟩
 ·obtain⟨Q,R,E,L,_⟩:=Lib.run_append_own_string (P:=P) w w.heap.size t u ty e i ht hu hi hz qo cx _ 0 xs ⟨I1.1,.inl ⟨rfl,rfl⟩⟩ s D wv (gC _);rw[B] at E;cases E;rcases L.2 with⟨rfl,_⟩|⟨g,_,_,rfl,k,_⟩
  ·cases A
  ·cases A;exact .inr k
 ·by_cases F:n+s.size<=C
  ·have:=Lib.run_append_room_string (P:=P) w t u ty e i ht hu hi qo g n C M N s F (by omega);rw[B] at this;cases this;exact .inl A
  ·have:=Lib.run_append_grow_string (P:=P) w t u ty e i (.int .u8 0) ht hu hi hz ⟨g,0,none⟩ n C xs (by rw[qo];exact I1.1) (I1.cells (g:=g) rfl) s (by omega) (by omega) (by rw[cx];exact growslice_fits (by omega) (by omega));rw[B] at this;cases this;cases A;exact .inr (gC _)
theorem Yr{P:aA5}{w:aAf}{ops:Array aBa}{rest:List aBa}{o:aBa}{a:aBe}{Q:aBd->aBe->aAf->Prop}(hgd:o.guard=none)(sl x:aAp)(t u:aAg)(ho:o.op= .call { callee:= .builtin .append,args:= #[sl,x],argTypes:= #[t,u] })
  (e:aAg) (i:TypeInfo) (ht:P.underlying t=some (.slice e)) (hu:P.underlying u=some .string) (hi:P.info? e=some i) (hz:i.zero=some (.int .u8 0)) (qo:i.size=1) (cx:i.bytes=1)
  (v:aA4) (n:Nat) (xs:List aA4) (hs:a.eval sl=v) (I1:w.ownsRow 0 e 1 v n xs) (s:ByteArray) (hx:a.eval x= .string s) (wv:n+s.size<=140737488355328)
  (h:∀v' w',w'.ownsRow 0 e 1 v' (n+s.size) (xs++Lib.strCells s)->w.grownBy w' v.ownBlock->(v'= .slice none 0 0↔v= .slice none 0 0/\s.size=0)->(∀g,v'.ownBlock=some g->v.ownBlock=some g\/w.heap.size<=g)->wpList P ops Q rest (a.put o.dst v') w'):wpList P ops Q (o::rest) a w:=by
 refine wpList_plain hgd λK A=>?_;obtain⟨v',w',B,C,D,E,F⟩:=RX (P:=P) w t u o.type e i ht hu hi hz qo cx v n xs I1 s wv;unfold Oper.wp execOp;simp only[ho,resolve,invoke,builtin,Sem.run_bind,Sem.run_pure,Result.andThen_ok,aGp,V0,aGw,hs,hx,B];exact A _ _ (h v' w' C D E F)
def aBp(P:aA5)(f:aA6)(T e:aAg):Prop:=∀(b:Nat) (p:Bool) (v n sl:aA4) (l:List aA4) (s:ByteArray) (w:aAf),w.heap[b]? =some (.cells #[xI p b,v,n,sl] T (0,0))->w.ownsRow 0 e 1 v l.length l->(∀g,v.ownBlock=some g->g≠b)->l.length+s.size<=140737488355328->Calls P f #[.pointer (some ⟨b,0,none⟩),.string s] w λev u=>ev= .returned (.tuple #[.int .i64 s.size,.nilIface])/\∃v',u.heap[b]? =some (.cells #[xI true b,v',n,sl] T (0,0))/\u.ownsRow 0 e 1 v' (l.length+s.size) (l++Lib.strCells s)/\(v'= .slice none 0 0↔v= .slice none 0 0/\s=ByteArray.empty)/\(∀g,v'.ownBlock=some g->v.ownBlock=some g\/w.heap.size<=g)/\∃w1 w2,ff b w w1/\w1.grownBy w2 v.ownBlock/\ff b w2 u
def aBq(P:aA5)(f:aA6)(T e:aAg):Prop:=∀(b:Nat) (p v n sl:aA4) (l:List UInt8) (w:aAf),w.heap[b]? =some (.cells #[p,v,n,sl] T (0,0))->w.ownsRow 0 e 1 v l.length (Lib.byteCells l)->(v= .slice none 0 0↔l=[])->Calls P f #[.pointer (some ⟨b,0,none⟩)] w λev u=>ev= .returned (.string ⟨l.toArray⟩)/\w.grownBy u v.ownBlock
section
variable {d:Option Tmp}{x y z:aAp}{δ:Type}{T e ET:aAg}{f:Fu δ}{i:Nat}{q:Nat×Bool×List Int×Int×List δ}{fn:aA6}{ts:Array aAg}
theorem Db(l:List Int):(wN l).length=l.length:=sv _
theorem Up{s l':List Int}(hl:FR q.2.2.1 s=some l')(hw:aBp F.P fn T e)(B5:∀args w,(callFunc fn args).run F.P w= .ok (.enter fn args) w)(hx:aV O.g x=some (.ptr i 0))(he:aF O.d i=some (.dp (DE.C6 T e f) q []))(hy:aV O.g y=some (.v Fu.str s))(hd:eR d F.N=true):JM F ⟨d,.call ⟨.value (.func fn),[x,y].toArray,ts⟩,ty,p,af,gd⟩ O ⟨gL d (.q9 [.v (Fu.int .i64) (s.length:Int),.v (Fu.err ET) none]) O.g,(i,.dp (DE.C6 T e f) (q.1,true,l',q.2.2.2) [])::O.d⟩:=by
 unfold FR at hl;split at hl<;>cases hl;rename_i ab;rintro a w ⟨⟨ρ,U,hs⟩,hz,G6⟩;have K:=aY U hs (Op.call ⟨.value (.func fn),[x,y].toArray,ts⟩).operands;have D:=K.slot x (by simp[Op.operands,Call.operands]) _ hx;have I:=K.slot y (by simp[Op.operands,Call.operands]) _ hy;simp only[Slot.ok] at D I;obtain⟨I,S,ks⟩:=tD.1 I;obtain⟨L,v,sl,h2,h3,h4,h5,h6,h7,M⟩:=U.own i _ he;rw[L] at D;have D:a.eval x= .pointer (some ⟨q.1,0,none⟩):=D.2;refine j6.enter (pW B5) ?_;simp only[V0,aGw,D,I];refine(hw q.1 q.2.1 v _ sl (wN q.2.2.1) (jE s) w h2 (by rw[Db];exact h6) (λg A=>(M g A).1) (by rw[Db,gN];exact ab)).mono ?_;rintro ev w' ⟨rfl,B,k1,Q,k3,k4,w1,w2,C,E,G⟩;refine⟨_,rfl,?_⟩;have yk:w.heap.size<=w'.heap.size:=by rw[G.size,<-C.size];exact E.size
 have oe:∀k,k<w.heap.size->k≠q.1->v.ownBlock≠some k->w'.heap[k]? =w.heap[k]? :=λk u X hv=>by
  rw[G.other k X,E.block k (by rw[C.size];exact u) (λe=>hv e.symm),C.other k X]
 have V:∀{k o},w'.heap[k]? =some o->k<w'.heap.size:=λh=>(aDl.1 h).1;rw[Db] at Q;have hu:∀k,mS ⟨.pointer (some ⟨q.1,0,none⟩),λk=>B.ownBlock=some k⟩ k->(mS (ρ i) k\/w.heap.size<=k)/\k<w'.heap.size:=λk u=>by
  rcases u with u | u
  ·have:k=q.1:=(X6 u).symm;subst this;exact⟨.inl (Ej L),V k1⟩
  ·refine⟨(k4 k u).imp (λh=>(M k h).2) id,?_⟩;rcases Q.2 with⟨rfl,_⟩|⟨g,_,_,rfl,_,A,_⟩
   ·cases u
   ·cases u;exact V A
 have Z7:∀ρ' R,Ext (Un F.S0 ρ O.d) R w w'->(j2.dp (DE.C6 T e f) (q.1,true,q.2.2.1++s,q.2.2.2) []).ok ρ' R w' ⟨.pointer (some ⟨q.1,0,none⟩),λk=>B.ownBlock=some k⟩:=λρ' R hE=>by
  refine⟨rfl,B,sl,k1,h3,(Fu.sl f).mono h4 hE,h5.append S,?_,?_,λg A=>⟨?_,.inr A⟩⟩
  ·have e1:wN (q.2.2.1++s)=wN q.2.2.1++Lib.strCells (jE s):=(by rw[Yq S];simp[wN]);show w'.ownsRow 0 e 1 B (q.2.2.1++s).length (wN (q.2.2.1++s));rw[e1,cM,<-gN s];exact Q
  ·have e2:jE s=ByteArray.empty↔s=[]:=by
    exact(Rm (b:=[]) S (λ_ h=>nomatch h))
   show B=_↔q.2.2.1++s=[];rw[k3,h7,List.append_eq_nil_iff,e2]
  ·rintro rfl;rcases Q.2 with⟨rfl,_⟩|⟨g',_,_,rfl,_,ac,_⟩
   ·cases A
   ·rcases k4 _ A with h | h
    ·exact(M _ h).1 rfl
    ·have:=(aDl.1 h2).1;omega
 obtain⟨ρ',m1,m2,m3⟩:=U.chu (en':= .dp (DE.C6 T e f) (q.1,true,q.2.2.1++s,q.2.2.2) []) ⟨.pointer (some ⟨q.1,0,none⟩),λk=>B.ownBlock=some k⟩ he yk (λk u hn=>oe k u (λe=>hn (e ▸ Ej L)) λe=>hn (M k e).2)
  (by rw[G.os,E.os,C.os]) (by rw[G.tape,E.tape,C.tape]) (by rw[G.output,E.output,C.output]) hu L.symm Z7
 have h0:St F ⟨O.g,(i,.dp (DE.C6 T e f) (q.1,true,q.2.2.1++s,q.2.2.2) [])::O.d⟩ a w':=⟨⟨ρ',m1,λt z ht=>Slot.j5 z _ (hs t z ht) m2 (λj _=>m3 j)⟩,hz,G6⟩;obtain⟨⟨ρ2,g1,g2⟩,g3,g4⟩:=h0;have hr:(Slot.q9 [.v (Fu.int .i64) (s.length:Int),.v (Fu.err ET) none]).ok ρ2 (Un F.S0 ρ2 ((i,.dp (DE.C6 T e f) (q.1,true,q.2.2.1++s,q.2.2.2) [])::O.d)) w' (.tuple #[.int .i64 ((jE s).size:Int),.nilIface]):=by
  simp only[Slot.ok,aG];refine⟨[_,_],rfl,_,_,rfl,lG.2 ⟨by rw[gN],?_,?_⟩,_,_,rfl,qM.2 rfl,rfl⟩
  ·show (-9223372036854775808:Int)<=_;omega
  ·show _<=(9223372036854775807:Int);omega
 have:=St.put (O:=⟨O.g,(i,.dp (DE.C6 T e f) (q.1,true,q.2.2.1++s,q.2.2.2) [])::O.d⟩) (new:=[]) (dst:=d) g1 g2 g3 g4 rfl hd (y9.same hr);cases d with
 |none=>exact this
 |some t=>exact this
def DE.any:DE Unit where
 ok _ _ _ _ _:=True
 mono _ _ _:=trivial
theorem FT{l:List Int}(h:C2 l):wN l=Lib.byteCells (ub l):=by
 have u:l=ui (ub l):=(Lg h).symm
 conv=>lhs;rw[u]
 simp[Lib.byteCells,wN,ui]
theorem KY(hw:aBq F.P fn T e)(B5:∀args w,(callFunc fn args).run F.P w= .ok (.enter fn args) w)(hx:aV O.g x=some (.ptr i 0))(he:aF O.d i=some (.dp (DE.C6 T e f) q []))(hd:eR d F.N=true):JM F ⟨d,.call ⟨.value (.func fn),[x].toArray,ts⟩,ty,p,af,gd⟩ O ⟨gL d (.v Fu.str q.2.2.1) O.g,(i,.dp DE.any () [])::O.d⟩:=by
 rintro a w ⟨⟨ρ,B,E⟩,hz,G6⟩;have K:=aY B E (Op.call ⟨.value (.func fn),[x].toArray,ts⟩).operands;have u:=K.slot x (by simp[Op.operands,Call.operands]) _ hx;simp only[Slot.ok] at u;obtain⟨Q,v,sl,R,h3,h4,C,D,S,U⟩:=B.own i _ he;rw[Q] at u;have u:a.eval x= .pointer (some ⟨q.1,0,none⟩):=u.2;have G:(ub q.2.2.1).length=q.2.2.1.length:=sv _;refine j6.enter (pW B5) ?_;simp only[V0,aGw,u];refine(hw q.1 _ v _ sl (ub q.2.2.1) w R (by rw[G,<-FT C];exact D) (S.trans (by simp[ub]))).mono ?_;rintro ev w' ⟨rfl,k⟩;refine⟨_,rfl,?_⟩;obtain⟨ρ',V,X,m3⟩:=B.chu (en':= .dp DE.any () []) (ρ i) he k.size (λj A L=>k.block j A λe=>L (U j e.symm).2) k.os k.tape k.output (λj A=>⟨.inl A,gn (B.fresh i _ j he A).2 k.size⟩) rfl (λ_ _ _=>trivial)
 have I:(Slot.v Fu.str q.2.2.1).ok ρ' (Un F.S0 ρ' ((i,.dp DE.any () [])::O.d)) w' (.string ⟨(ub q.2.2.1).toArray⟩):=Ay C (by
  rcases D.2 with⟨_,h⟩|⟨g,ab,ac,_,_,_,h,h',_⟩
  ·rw[h];decide
  ·exact eo h (eo h' (by decide))) _ _ _
 have:=St.put (O:=⟨O.g,(i,.dp DE.any () [])::O.d⟩) (new:=[]) (dst:=d) V (λt z M=>Slot.j5 z _ (E t z M) X (λj _=>m3 j)) hz G6 rfl hd (y9.same I);cases d with
 |none=>exact this
 |some t=>exact this
end
theorem XS{F0 F:w8}{O:AS}{cs:List aBb}{Q:aBd->aBe->aAf->Prop}{i gt:Nat}{gf:aA6}{T:aAg}{s:List Int}(g:List (Nat×Slot))(hF:bp F0 F)(he:aF O.d i=some (.box T [.v Fu.str s] none))(ht:lk O.g gt=some (.G0 gf [.ptr i 0]))(hg:uf O.g g)(h:∀c S w R,bp F0 ⟨F.P,F.N,S,w,R,F.rd,F.df⟩->S c->¬R c->(F0.w0.heap.size<=c\/F0.R c)->w.heap[c]? =some (.cells #[.string (jE s)] T (0,0))->C2 s->s.length<=9223372036854775807->W ⟨F.P,F.N,S,w,R,F.rd,F.df⟩ cs ⟨(gt,.G0 gf [.v (Fu.H2 (.pointer (some ⟨c,0,none⟩)) rfl) ()])::g,rC O.d i⟩ Q):W F cs O Q:=by
 rintro a w ⟨⟨ρ,A,hs⟩,K,hd⟩;obtain⟨⟨c,cl,h1,h2,h3⟩,_⟩:=A.own i _ he;simp only[aL,Slot.I2] at h3;obtain⟨_,_,rfl,⟨rfl,hb,hl⟩,rfl⟩:=h3;have U:mS (ρ i) c:= .inl (by rw[h1];rfl);have B0:c<w.heap.size:=(aDl.1 h2).1;have G:∀{j en},aF (rC O.d i) j=some en->j≠i/\aF O.d j=some en:=by
  intro j en h;rw[Dx] at h;split at h
  ·cases h
  ·rename_i h0;exact⟨h0,h⟩
 have I:∀k,lF ρ (rC O.d i) k->(∃j en,aF O.d j=some en/\mS (ρ j) k)/\k≠c:=by
  rintro k ⟨j,en,D,B⟩;obtain⟨h6,h7⟩:=G D;exact⟨⟨j,en,h7,B⟩,λe=>h6 (A.inj j i en _ c h7 he (e ▸ B) U)⟩
 have X:Ext (Un F.S0 ρ O.d) (Un (λk=>F.S0 k\/k=c) ρ (rC O.d i)) w w:=⟨gC _,λk C V=>⟨rfl,by
  rintro ((h | rfl) | h)
  ·exact V (.inl h)
  ·exact V (.inr ⟨i,_,he,U⟩)
  ·obtain⟨⟨j,en,D,B⟩,_⟩:=I k h;exact V (.inr ⟨j,en,D,B⟩)⟩⟩
 have ab:F0.w0.heap.size<=c\/F0.R c:=by
  rcases (A.fresh i _ c he U).1 with h | h
  ·exact .inl (eo hF.size h)
  ·exact hF.fresh c h
 have mg:=hF.size;have mf:=A.size;have ac:bp F0 ⟨F.P,F.N,λk=>F.S0 k\/k=c,w,lF ρ (rC O.d i),F.rd,F.df⟩:=by
  refine⟨hF.P,λk h=> .inl (hF.S k h),eo mg mf,hF.low,λk C hr=>?_,A.os.trans hF.os,A.tape.trans hF.tape,A.output.trans hF.output,λk C=>?_,λx hx=>?_,hF.nd⟩
  ·obtain⟨M,E⟩:=hF.frame k C hr;refine⟨(A.frame k (by omega) E).trans M,λL=>?_⟩;obtain⟨⟨j,en,D,B⟩,_⟩:=I k L;rcases (A.fresh j en k D B).1 with h | h
   ·omega
   ·exact(hF.fresh k h).elim (λh=>by omega) hr
  ·obtain⟨⟨j,en,D,B⟩,_⟩:=I k C;rcases (A.fresh j en k D B).1 with h | h
   ·exact .inl (eo mg h)
   ·exact hF.fresh k h
  ·obtain⟨r,M,E,q3,q4,q5⟩:=hF.df x hx;refine⟨r,M,.inl E,λL=>?_,q4,(A.frame r (A.low r E) q3).trans q5⟩;obtain⟨⟨j,en,D,B⟩,_⟩:=I r L;exact A.apart j en r D B E
 refine h c _ w _ ac (.inr rfl) (λL=>(I c L).2 rfl) ab h2 hb hl a w ⟨⟨ρ,⟨?_,gC _,λ_ _ _=>rfl,rfl,rfl,rfl,λj en h=>?_,λj en k h C=>?_,λj j' en ad k h h'=>?_,λj en k h C=>?_⟩,λt z K=>?_⟩,K,hd⟩
 ·rintro k (h | rfl)
  ·exact gn (A.low k h) mf
  ·exact B0
 ·exact j2.j5 (A.own j en (G h).2) X (λ_ _=>rfl) (λ_ _=>rfl)
 ·exact⟨.inr ⟨j,en,h,C⟩,(A.fresh j en k (G h).2 C).2⟩
 ·exact A.inj j j' en ad k (G h).2 (G h').2
 ·rintro (B | rfl)
  ·exact A.apart j en k (G h).2 C B
  ·exact(I _ ⟨j,en,h,C⟩).2 rfl
 ·rw[kF] at K;split at K
  ·rename_i e;cases K;subst e;have:=hs _ _ ht;simp only[Slot.ok,aG] at this ⊢;obtain⟨vs,M,u,jr,rfl,⟨_,E⟩,rfl⟩:=this;rw[h1] at E;exact⟨_,M,_,_,rfl,zB.2 E,rfl⟩
  ·exact Slot.j5 z _ (hs t z (hg.spec t z K)) X (λ_ _=>rfl)
section
variable {τ:AS}{x y z:aAp}{M:aAg}
theorem jV(h:JM F ⟨none,.mapUpdate M x y z,ty,p,af,gd⟩ O τ):JM F ⟨none,.insert M x y z,ty,p,af,gd⟩ O τ:=h
end
section
variable {cs:List aBb}{δ ε:Type}{f:α->AS}{g:β->AS}
theorem XT{x:α}(h:W F cs (f x) Q):W F cs (Sum.elim f g (.inl x)) Q:=h
theorem XU{x:β}(h:W F cs (g x) Q):W F cs (Sum.elim f g (.inr x)) Q:=h
theorem Uq{x:α}(h:Sub F O (f x)):Sub F O (Sum.elim f g (.inl x)):=h
theorem Ur{x:β}(h:Sub F O (g x)):Sub F O (Sum.elim f g (.inr x)):=h
theorem aBr{u:α->κ}{v:β->κ}{x:α}{r:κ}(h:Sum.elim u v (.inl x)=r):u x=r:=h
theorem aBs{u:α->κ}{v:β->κ}{x:β}{r:κ}(h:Sum.elim u v (.inr x)=r):v x=r:=h
end
class TT (P:aA5) (T:aAg) (d:outParam aA9) (n:outParam Nat) (b:outParam Bool):Prop where
 u:∀w,(underlying T).run P w= .ok d w
 s:∀w,(sizeOf T).run P w= .ok n w
 a:∀w,(isAgg T).run P w= .ok b w
theorem eW{P:aA5}{T:aAg}{d v:aA9}{n:Nat}{b:Bool}[h:TT P T d n b](e:d=v):∀w,(underlying T).run P w= .ok v w:=e ▸ h.u
theorem lK{P:aA5}{T:aAg}{d:aA9}{n m:Nat}{b:Bool}[h:TT P T d n b](e:m=n):∀w,(sizeOf T).run P w= .ok m w:=e ▸ h.s
theorem Ek{P:aA5}{T:aAg}{d:aA9}{n:Nat}{b c:Bool}[h:TT P T d n b](e:c=b):∀w,(isAgg T).run P w= .ok c w:=e ▸ h.a
class ZA (P:aA5) (T:aAg) (l:outParam (List Slot)):Prop where
 h:∃z cs,(∀w,(zeroValue T).run P w= .ok z w)/\z.cells=List.toArray cs/\Zr cs l
class BD (P:aA5) (T:aAg) (pl:outParam (List (Nat×Nat))) (l:outParam (List Slot)):Prop where
 h:∃zs,(∀parts,P.built T parts=Instr.fill (pl.toArray[·]?) (List.toArray zs) parts)/\Zr zs l
class EN (T:aAg) (E:outParam aAg) (α:outParam Type) (e:outParam (Fu α)):Prop
inductive SFl (P:aA5):List aA8->List Nat->Prop
 |nil:SFl P [] []
 |cons {f:aA8} {fs:List aA8} {os:List Nat} {k:Nat}:(∀w,(sizeOf f.type).run P w= .ok k w)->Nat.beq k 0=false->SFl P fs os->SFl P (f::fs) (f.offset::os)
theorem SFl.at{P:aA5}{fs:List aA8}{os:List Nat}(h:SFl P fs os){m o:Nat}(e:os[m]? =some o):∃f,fs[m]? =some f/\f.offset=o/\∃k,(∀w,(sizeOf f.type).run P w= .ok k w)/\Nat.beq k 0=false:=by
 induction h generalizing m<;>grind
class SF (P:aA5) (T:aAg) (os:outParam (List Nat)):Prop where
 h:∃fs,(∀w,(underlying T).run P w= .ok (.struct fs) w)/\SFl P fs.toList os
theorem SF.at{P:aA5}{T:aAg}{os:List Nat}[h:SF P T os]{m o:Nat}(e:os[m]? =some o):∃fs f,(∀w,(underlying T).run P w= .ok (.struct fs) w)/\fs[m]? =some f/\f.offset=o/\∃k,(∀w,(sizeOf f.type).run P w= .ok k w)/\Nat.beq k 0=false:=by
 obtain⟨fs,A,u⟩:=h.h;obtain⟨f,B,C⟩:=u.at e
 grind
class TI (P:aA5) (T:aAg) (ti:outParam TypeInfo):Prop where
 h:∀w,(typeInfo T).run P w= .ok ti w
class MC {β:Type} (m:Option β) (P:outParam aA5) (f:outParam aA6) (ss:outParam (List Slot)) (res:outParam (β->Slot)) (new:outParam (β->List (Nat×j2))):Prop where
 E0:∀{r},m=some r->O4 P f ss (res r) (new r)
 call:∀args w,(callFunc f args).run P w= .ok (.enter f args) w
inductive NL {α:Type _}:List α->List α->Prop
 |nil {l:List α}:l=[]->NL l []
 |cons {l r r':List α} {x:α}:l=x::r->NL r r'->NL l (x::r')
theorem NL.eq{α:Type _}{l r:List α}(h:NL l r):l=r:=by
 induction h<;>grind
theorem nl{α:Type _}{l r:List α}(h:NL l r:=by ((repeat (first | (apply NL.cons;exact rfl) | exact NL.nil rfl));fail_if_success focus skip)):NL l r:=h
mutual
inductive SN:Slot->Slot->Prop
 |v {s:Slot} {α:Type} {e:Fu α} {a:α}:s= .v e a->SN s (.v e a)
 |ref {s:Slot} {i:Nat}:s= .ref i->SN s (.ref i)
 |ptr {s:Slot} {i o:Nat}:s= .ptr i o->SN s (.ptr i o)
 |agg {s:Slot} {l l':List Slot}:s= .agg l->zi l l'->SN s (.agg l')
 |q9 {s:Slot} {l l':List Slot}:s= .q9 l->zi l l'->SN s (.q9 l')
 | G0 {s:Slot} {g:Nat} {l l':List Slot}:s= .G0 g l->zi l l'->SN s (.G0 g l')
 |o {s:Slot}:SN s s
inductive zi:List Slot->List Slot->Prop
 |nil {l:List Slot}:l=[]->zi l []
 |cons {l r r':List Slot} {s s':Slot}:l=s::r->SN s s'->zi r r'->zi l (s'::r')
end
mutual
theorem SN.eq:∀{s s':Slot},SN s s'->s=s'
 |_,_,.v h=>h
 |_,_,.ref h=>h
 |_,_,.ptr h=>h
 |_,_,.agg h k=>by rw[h,zi.eq k]
 |_,_,.q9 h k=>by rw[h,zi.eq k]
 |_,_,.G0 h k=>by rw[h,zi.eq k]
 |_,_,.o=>rfl
theorem zi.eq:∀{l l':List Slot},zi l l'->l=l'
 |_,_,.nil h=>h
 |_,_,.cons h k j=>by rw[h,SN.eq k,zi.eq j]
end
inductive sy:List (Nat×j2)->List (Nat×j2)->Prop
 |nil {l:List (Nat×j2)}:l=[]->sy l []
 |arr {l r r':List (Nat×j2)} {i:Nat} {T:aAg} {α:Type} {e:Fu α} {x:List α}:l=(i,.arr T e x)::r->sy r r'->sy l ((i,.arr T e x)::r')
 |box {l r r':List (Nat×j2)} {i:Nat} {T:aAg} {q q':List Slot} {pb:Option Nat}:l=(i,.box T q pb)::r->zi q q'->sy r r'->sy l ((i,.box T q' pb)::r')
 |mp {l r r':List (Nat×j2)} {i:Nat} {α β:Type} {e:Fu α} {f:Fu β} {m:List (α×β)}:l=(i,.mp e f m)::r->sy r r'->sy l ((i,.mp e f m)::r')
 |o {l r r':List (Nat×j2)} {x:Nat×j2}:l=x::r->sy r r'->sy l (x::r')
theorem sy.eq{l r:List (Nat×j2)}(h:sy l r):l=r:=by
 induction h with
 |nil h=>omega
 |arr h _ u=>grind
 |box h k _ u=>rw[h,u,k.eq]
 |mp h _ u=>rw[h,u]
 |o h _ u=>rw[h,u]
theorem snl{l l':List Slot}(h:zi l l':=by ((repeat (first | (apply zi.cons;exact rfl) | exact zi.nil rfl | exact SN.v rfl | exact SN.ref rfl | exact SN.ptr rfl | (apply SN.agg;exact rfl) | (apply SN.q9;exact rfl) | (apply SN.G0;exact rfl) | exact SN.o));fail_if_success focus skip)):zi l l':=h
theorem sn{s s':Slot}(h:SN s s':=by first | exact SN.v rfl | exact SN.ref rfl | exact SN.ptr rfl | (apply SN.agg;exact rfl;exact snl) | (apply SN.q9;exact rfl;exact snl) | (apply SN.G0;exact rfl;exact snl) | exact SN.o):SN s s':=h
theorem enl{l l':List (Nat×j2)}(h:sy l l':=by ((repeat (first | exact sy.nil rfl | (apply sy.arr;exact rfl) | (apply sy.box;exact rfl;exact snl) | (apply sy.mp;exact rfl) | (apply sy.o;exact rfl)));fail_if_success focus skip)):sy l l':=h
structure KO (C:List Nat) (F:w8) (o:aBa) (O:AS) (s:Slot) (new d':List (Nat×j2)):Prop where
 h:JO F o O s new
 f:O.free new=true
 e:d'=new++O.d
structure KM (C:List Nat) (F:w8) (o:aBa) (O O':AS):Prop where
 h:JM F o O O'
class ER (T:outParam aAg):Prop
section
variable {g:List (Nat×Slot)}{d:Option Tmp}{t:Tmp}{x y z c:aAp}{e:Fu α}{n:Nat}{b:Bool}{u:aA9}{i off:Nat}{T E U':aAg}{l l':List Slot}{o:aBa}
theorem KO.of(h:JO F o ⟨g,dd⟩ s []):KO C F o ⟨g,dd⟩ s [] dd:=⟨h,rfl,rfl⟩
theorem KO.o1{en:j2}(h:JO F o ⟨g,dd⟩ s [(i,en)])(f:AS.free ⟨g,dd⟩ [(i,en)]=true):KO C F o ⟨g,dd⟩ s [(i,en)] ((i,en)::dd):=⟨h,f,rfl⟩
theorem VZ{os:List Nat}{m k:Nat}[SF F.P U os](hx:aV O.g x=some (.ptr i off))(ho:os[m]? =some k):JO F ⟨d,.fieldAddr U x m,ty,p,af,gd⟩ O (.ptr i (off+k)) []:=by
 obtain⟨u,f,A,B,rfl,k,C,D⟩:=SF.at (P:=F.P) (T:=U) ho;grind [cB,Nat.beq_refl]
theorem aBt{os:List Nat}{m k j:Nat}[SF F.P U os](hx:aV O.g x=some (.el i j e.n off))(ho:os[m]? =some k):JO F ⟨d,.fieldAddr U x m,ty,p,af,gd⟩ O (.el i j e.n (off+k)) []:=by
 obtain⟨u,f,A,B,rfl,k,C,D⟩:=SF.at (P:=F.P) (T:=U) ho;grind [Xt,Nat.beq_refl]
theorem KO.wj[EN ty E α e]:KO C F ⟨d,.assign (.const (.slice none 0 0)),ty,p,af,gd⟩ ⟨g,dd⟩ (.v (Fu.sl e) []) [] dd:= .of (vR e)
theorem RY[EN ty E α e](hC:dK t C=true)(f:AS.free ⟨g,dd⟩ [(t,.arr E e [])]=true):KO C F ⟨some t,.assign (.const (.slice none 0 0)),ty,p,af,gd⟩ ⟨g,dd⟩ (.ref t) [(t,.arr E e [])] ((t,.arr E e [])::dd):= .o1 (uS t E e) f
theorem RZ[EN ty E α e](hC:dK t C=true)(f:AS.free ⟨g,dd⟩ [(t+3000,.arr E e [])]=true):KO C F ⟨some t,.assign (.const (.slice none 0 0)),ty,p,af,gd⟩ ⟨g,dd⟩ (.ref (t+3000)) [(t+3000,.arr E e [])] ((t+3000,.arr E e [])::dd):= .o1 (uS (t+3000) E e) f
theorem KO.aKs[ER T]:KO C F ⟨d,.assign (.const .nilIface),ty,p,af,gd⟩ ⟨g,dd⟩ (.v (Fu.err T) none) [] dd:= .of (xR T)
theorem KO.alloc[h:ZA F.P T l](N4:(bX l).all (λj=> !Nat.beq j t)=true)(f:AS.free ⟨g,dd⟩ [(t,.box T l)]=true):KO C F ⟨some t,.alloc T,ty,p,af,gd⟩ ⟨g,dd⟩ (.ptr t 0) [(t,.box T l)] ((t,.box T l)::dd):=by
 obtain⟨D,cs,u,A,B⟩:=h.h;exact .o1 (dV t u A B N4) f
theorem KO.aWv(hx:aV g x=some (.agg l))(N4:(bX l).all (λj=> !Nat.beq j t)=true)(f:AS.free ⟨g,dd⟩ [(t,.box T l)]=true):KO C F ⟨some t,.box T x,ty,p,af,gd⟩ ⟨g,dd⟩ (.ptr t 0) [(t,.box T l)] ((t,.box T l)::dd):= .o1 (Gf t hx N4) f
end
section
variable {g:List (Nat×Slot)}{d:Option Tmp}{t:Tmp}{x y z c:aAp}{e:Fu α}{n:Nat}{b:Bool}{u:aA9}{i off:Nat}{T E U':aAg}{l l':List Slot}{o:aBa}
theorem KM.store[TT F.P U u n b](hx:aV g x=some (.ptr i off))(he:aF dd i=some (.box T l pb))(ho:jJ l off=some s0)(hy:aV g y=some s)(db:s.ag=s0.ag)(hp:s.plain=true)(N2:Nat.beq s.sz n=true)(Y4:Nat.beq s0.sz n=true)(hd:NL (jK l off s) l'):
  KM C F ⟨none,.store U x y,ty,p,af,gd⟩ ⟨g,dd⟩ ⟨g,(i,.box T l' pb)::dd⟩:=⟨by rw[<-hd.eq];exact Kh hx he ho hy hp N2 Y4 (lK rfl)⟩
theorem KM.append{xs ys zs:List α}{ti:TypeInfo}{zv:aA4}(hx:aV g x=some (.ref i))(he:aF dd i=some (.arr T e xs))(hy:Src ⟨g,dd⟩ y e ys)(hU:∀w,(underlying U).run F.P w= .ok (.slice T) w)(hI:∀w,(typeInfo T).run F.P w= .ok ti w)(hS:∀w,(sizeOf T).run F.P w= .ok e.n w)(hz:ti.zero=some zv)(hzs:zv.cells.size=e.n)(cx:Nat.ble ti.bytes 4096=true)
  (ha:app xs ys=some zs) (hf:AS.free ⟨g,dd⟩ [(t,.arr T e zs)]=true) (hd:eR (some t) F.N=true) (hn:NL (rC dd i) d'):KM C F ⟨some t,.call ⟨.builtin .append,#[x,y],#[U,U]⟩,ty,p,af,gd⟩ ⟨g,dd⟩ ⟨(t,.ref t)::g,(t,.arr T e zs)::d'⟩:=⟨by rw[<-hn.eq];exact oR t ha hx he hy hU hI hS hz hzs cx hf hd⟩
end
section
variable {σ2:AS}{g:List (Nat×Slot)}{X:AS->Prop}{m:Option β}{r:β}{R:Prop}{d:Option Tmp}{t:Tmp}{op:Op}{cs:List aBb}{id:Nat}{o:aBa}
theorem Rn{ops:Array aBa}{g:List (Nat×Slot)}{o:aBa}(h:GK ops g o true:=by first | exact GK.none rfl | (apply VX;exact rfl;exact rfl;exact rfl;first | assumption | exact rfl)):GK ops g o true:=h
structure GJ (C:List Nat) (F:w8) (ops:Array aBa) (os:List aBa) (O:AS) (X:AS->Prop) {β:Type} (m:Option β) (r:β) (R:Prop):Prop where
 go:R->m=some r->∃O',J F ops os O O'/\X O'
structure GW (C:List Nat) (F:w8) (cs:List aBb) (O:AS) (Q:aBd->aBe->aAf->Prop) {β:Type} (m:Option β) (r:β) (R:Prop):Prop where
 go:R->m=some r->W F cs O Q
structure GX (C:List Nat) (F:w8) (O:AS) (Q:aBd->aBe->aAf->Prop) (e:aBd) {β:Type} (m:Option β) (r:β) (R:Prop):Prop where
 go:R->m=some r->XQ F O Q e
theorem BY(k:GW C F cs O Q m r R):GJ C F ops [] O (λs=>W F cs s Q) m r R:=⟨λq h=>⟨O,J.nil,k.go q h⟩⟩
theorem GJ.wj{t:β}(h:r=t->Sub F O σ2):GJ C F ops [] O (λs=>Sub F s σ2) (some t) r True:=⟨λ_ e=>⟨O,J.nil,h (X6 e).symm⟩⟩
theorem KZ(hg:GK ops g ⟨some t,op,ty,p,af,gd⟩ true)(h:KO C F ⟨some t,op,ty,p,af,gd⟩ ⟨g,dd⟩ s new d')(hd:Nat.blt t F.N=true)(k:GJ C F ops os ⟨(t,s)::g,d'⟩ X m r R):GJ C F ops (⟨some t,op,ty,p,af,gd⟩::os) ⟨g,dd⟩ X m r R:=⟨λq e=>by
 obtain⟨A,a,b⟩:=k.go q e;have u:=h.e;subst u
 exact⟨A,J.cons hg h.h h.f hd a,b⟩⟩
theorem GJ.on(hg:GK ops g ⟨none,op,ty,p,af,gd⟩ true)(h:KO C F ⟨none,op,ty,p,af,gd⟩ ⟨g,dd⟩ s new d')(k:GJ C F ops os ⟨g,d'⟩ X m r R):GJ C F ops (⟨none,op,ty,p,af,gd⟩::os) ⟨g,dd⟩ X m r R:=⟨λq e=>by
 obtain⟨A,a,b⟩:=k.go q e;have u:=h.e;subst u
 exact⟨A,J.cons hg h.h h.f rfl a,b⟩⟩
theorem LA(hg:GK ops O.g ⟨d,op,ty,p,af,gd⟩ true)(h:KM C F ⟨d,op,ty,p,af,gd⟩ O O')(k:GJ C F ops os O' X m r R):GJ C F ops (⟨d,op,ty,p,af,gd⟩::os) O X m r R:=⟨λq e=>by
 obtain⟨O',a,b⟩:=k.go q e;exact⟨O',Nu hg h.h a,b⟩⟩
theorem LC{j:Nat}{want:Bool}{t':Tmp}{v:Bool}(ht:(ops[j]?).bind (·.dst)=some t')(hx:lk g t'=some (.v Fu.bool v))(hb:v= !want)(hd:Nat.blt t F.N=true)(k:GJ C F ops os ⟨(t,.top)::g,dd⟩ X m r R):GJ C F ops (⟨some t,op,ty,p,af,some (j,want)⟩::os) ⟨g,dd⟩ X m r R:=⟨λq e=>by
 obtain⟨u,a,b⟩:=k.go q e;exact⟨u,J.left (KR rfl ht hx hb) hd a,b⟩⟩
theorem LD{j:Nat}{want:Bool}{t':Tmp}(ht:(ops[j]?).bind (·.dst)=some t')(hx:lk g t'=some .top)(hd:Nat.blt t F.N=true)(k:GJ C F ops os ⟨(t,.top)::g,dd⟩ X m r R):GJ C F ops (⟨some t,op,ty,p,af,some (j,want)⟩::os) ⟨g,dd⟩ X m r R:=⟨λq e=>by
 obtain⟨u,a,b⟩:=k.go q e;exact⟨u,J.left (Qo t' rfl ht hx) hd a,b⟩⟩
theorem GJ.bk{e:Option γ}{z:γ}{k:γ->Option β}(h:e=some z)(j:GJ C F ops os O X (k z) r R):GJ C F ops os O X (e.bind k) r R:=⟨λq x=>j.go q (by grind)⟩
theorem GJ.b{e:Option γ}{k:γ->Option β}{R:∀z,e=some z->Prop}(j:∀z (h:e=some z),GJ C F ops os O X (k z) r (R z h)):GJ C F ops os O X (e.bind k) r (∀z h,R z h):=⟨λq x=>by obtain⟨z,h,x⟩:=aC x;exact(j z h).go (q z h) x⟩
theorem GJ.bf{e:Option γ}{k:γ->Option β}(j:∀z (_:e=some z),GJ C F ops os O X (k z) r True):GJ C F ops os O X (e.bind k) r True:=⟨λq x=>by obtain⟨z,h,x⟩:=aC x;exact(j z h).go q x⟩
theorem GJ.if{b:Bool}{u v:Option β}(h1:b=true->GJ C F ops os O (λs=>Sub F s σ2) u r True)(h2:b=false->GJ C F ops os O (λs=>Sub F s σ2) v r True):GJ C F ops os O (λs=>Sub F s σ2) (bif b then u else v) r True:=⟨λq e=>by cases b;exact(h2 rfl).go q e;exact(h1 rfl).go q e⟩
structure KP (C:List Nat) (F:w8) (ops:Array aBa) (o:aBa) (O σ1:AS) (it:E4):Prop where
 h:∀{os:List aBa} {O':AS} {its:List E4},E9 F ops (λ_=>True) os σ1 its O'->E9 F ops (λ_=>True) (o::os) O (it::its) O'
structure GP (C:List Nat) (F:w8) (ops:Array aBa) (σ0:AS) (acc:List E4) (os:List aBa) (O:AS) (X:AS->Prop) {β:Type} (m:Option β) (r:β) (R:Prop):Prop where
 go:R->m=some r->∃os1 os2 its σ1 O',os=os1++os2/\E9 F ops (λ_=>True) os1 O its σ1/\J F ops os2 σ1 O'/\X O'/\its.length=os1.length/\
  xG ops (List.reverseAux acc its).length (Ga ops)=true/\Tw (List.reverseAux acc its) (Ga ops)=true/\Tx σ0 (List.reverseAux acc its) (Ga ops)=true
section
variable {acc:List E4}{σ0 σ1:AS}{it:E4}{x y:aAp}{T:aAg}{u:aA9}{n i off:Nat}{b:Bool}{l l':List Slot}{e:Fu α}
theorem WA(hg:GK ops g ⟨some t,op,ty,p,af,gd⟩ true)(h:KO C F ⟨some t,op,ty,p,af,gd⟩ ⟨g,dd⟩ s new d')(hd:Nat.blt t F.N=true):KP C F ops ⟨some t,op,ty,p,af,gd⟩ ⟨g,dd⟩ ⟨(t,s)::g,d'⟩ ⟨s,new,new,Bv g ⟨some t,op,ty,p,af,gd⟩,[]⟩:=⟨λk=>by
 have u:=h.e;subst u
 exact .cons hg h.h hd k⟩
theorem KP.pu(hg:GK ops g ⟨some t,op,ty,p,af,gd⟩ true)(h:∀d,JO F ⟨some t,op,ty,p,af,gd⟩ ⟨g,d⟩ s [])(hd:Nat.blt t F.N=true):KP C F ops ⟨some t,op,ty,p,af,gd⟩ ⟨g,dd⟩ ⟨(t,s)::g,dd⟩ ⟨s,[],[],[],[]⟩:=⟨λk=> .pu hg hd (λd _=>h d) k⟩
theorem KP.w{j:Nat}{want:Bool}{t':Tmp}{v:Bool}(ht:(ops[j]?).bind (·.dst)=some t')(hx:lk g t'=some (.v Fu.bool v))(hb:v= !want)(hd:Nat.blt t F.N=true):KP C F ops ⟨some t,op,ty,p,af,some (j,want)⟩ ⟨g,dd⟩ ⟨(t,.top)::g,dd⟩ ⟨.top,[],[],Bv g ⟨some t,op,ty,p,af,some (j,want)⟩,[]⟩:=⟨λk=> .left (KR rfl ht hx hb) hd k⟩
theorem aBu{j:Nat}{want:Bool}{t':Tmp}(ht:(ops[j]?).bind (·.dst)=some t')(hx:lk g t'=some .top)(hd:Nat.blt t F.N=true):KP C F ops ⟨some t,op,ty,p,af,some (j,want)⟩ ⟨g,dd⟩ ⟨(t,.top)::g,dd⟩ ⟨.top,[],[],Bv g ⟨some t,op,ty,p,af,some (j,want)⟩,[]⟩:=⟨λk=> .left (Qo t' rfl ht hx) hd k⟩
theorem KP.st[TT F.P U u n b](hx:aV g x=some (.ptr i off))(he:aF dd i=some (.box T l pb))(ho:jJ l off=some s0)(hy:aV g y=some s)(db:s.ag=s0.ag)(hp:s.plain=true)(N2:Nat.beq s.sz n=true)(Y4:Nat.beq s0.sz n=true)(hd:NL (jK l off s) l'):
  KP C F ops ⟨none,.store U x y,ty,p,af,none⟩ ⟨g,dd⟩ ⟨g,(i,.box T l' pb)::dd⟩ ⟨.top,[(i,.box T l' pb)],[],Bv g ⟨none,.store U x y,ty,p,af,none⟩,[]⟩:=⟨λk=>by rw[<-hd.eq] at k ⊢;exact E9.store (GK.none rfl) hx he ho hy hp N2 Y4 (lK rfl) k⟩
theorem KP.sA{v:α}(hx:aV g x=some (.ptr i 0))(he:aF dd i=some (.box T l pb))(hl:Nat.beq (l.map Slot.sz).sum e.n=true)(hy:aV g y=some (.v e v))(U1:X7 l' e v)(hS:∀w,(sizeOf U).run F.P w= .ok e.n w):KP C F ops ⟨none,.store U x y,ty,p,af,none⟩ ⟨g,dd⟩ ⟨g,(i,.box T l' pb)::dd⟩ ⟨.top,[(i,.box T l' pb)],[],Bv g ⟨none,.store U x y,ty,p,af,none⟩,[]⟩:=⟨λk=>E9.storeAll (GK.none rfl) hx he hl hy U1 hS k⟩
theorem KP.sG(hx:aV g x=some (.ptr i 0))(he:aF dd i=some (.box T l pb))(hl:(l.map Slot.sz).sum=n)(hy:aV g y=some (.agg l'))(U1:(l'.map Slot.sz).sum=n)(hnt:l'.all Slot.plain=true)(hS:∀w,(sizeOf U).run F.P w= .ok n w):KP C F ops ⟨none,.store U x y,ty,p,af,none⟩ ⟨g,dd⟩ ⟨g,(i,.box T l' pb)::dd⟩ ⟨.top,[(i,.box T l' pb)],[],Bv g ⟨none,.store U x y,ty,p,af,none⟩,[]⟩:=⟨λk=>E9.aM2 (GK.none rfl) hx he hl hy U1 hnt hS k⟩
theorem aBv{xs ys zs:List α}{ti:TypeInfo}{zv:aA4}(hx:aV g x=some (.ref i))(he:aF dd i=some (.arr T e xs))(hy:Src ⟨g,dd⟩ y e ys)(hU:∀w,(underlying U).run F.P w= .ok (.slice T) w)(hI:∀w,(typeInfo T).run F.P w= .ok ti w)(hS:∀w,(sizeOf T).run F.P w= .ok e.n w)(hz:ti.zero=some zv)(hzs:zv.cells.size=e.n)(cx:Nat.ble ti.bytes 4096=true)
  (ha:app xs ys=some zs) (hf:AS.free ⟨g,dd⟩ [(t,.arr T e zs)]=true) (hd:eR (some t) F.N=true) (hn:NL (rC dd i) d'):
  KP C F ops ⟨some t,.call ⟨.builtin .append,#[x,y],#[U,U]⟩,ty,p,af,none⟩ ⟨g,dd⟩ ⟨(t,.ref t)::g,(t,.arr T e zs)::d'⟩ ⟨.ref t,[(t,.arr T e zs)],[(t,.arr T e zs)],Bv g ⟨some t,.call ⟨.builtin .append,#[x,y],#[U,U]⟩,ty,p,af,none⟩,[i]⟩:=⟨λk=>by
 rw[<-hn.eq] at k;exact E9.append (GK.none rfl) t ha hx he hy hU hI hS hz hzs cx hf hd k⟩
theorem rD(h:KP C F ops o O σ1 it)(k:GP C F ops σ0 (it::acc) os σ1 X m r R):GP C F ops σ0 acc (o::os) O X m r R:=⟨λq e=>by
 obtain⟨u,A,B,σ1,D,N,E,G,I,P,K,L,M⟩:=k.go q e
 exact⟨o::u,A,it::B,σ1,D,by grind,h.h E,G,I,by grind,K,L,M⟩⟩
theorem Li(br:xG ops (List.reverseAux acc []).length (Ga ops)=true)(zq:Tw (List.reverseAux acc []) (Ga ops)=true)(yo:Tx σ0 (List.reverseAux acc []) (Ga ops)=true)(k:GJ C F ops os O X m r R):GP C F ops σ0 acc os O X m r R:=⟨λq e=>by
 obtain⟨u,a,b⟩:=k.go q e
 exact⟨[],os,[],O,u,rfl,.nil,a,b,rfl,br,zq,yo⟩⟩
theorem GP.sz(br:xG ops (List.reverseAux acc []).length (Ga ops)=true)(zq:Tw (List.reverseAux acc []) (Ga ops)=true)(yo:Tx σ0 (List.reverseAux acc []) (Ga ops)=true)(k:GJ C F ops [] O X m r R):GP C F ops σ0 acc [] O X m r R:=Li br zq yo k
theorem GP.bk{e:Option γ}{z:γ}{k:γ->Option β}(h:e=some z)(j:GP C F ops σ0 acc os O X (k z) r R):GP C F ops σ0 acc os O X (e.bind k) r R:=⟨λq x=>j.go q (by grind)⟩
theorem aBw{e:Option γ}{k:γ->Option β}{R:∀z,e=some z->Prop}(j:∀z (h:e=some z),GP C F ops σ0 acc os O X (k z) r (R z h)):GP C F ops σ0 acc os O X (e.bind k) r (∀z h,R z h):=⟨λq x=>by obtain⟨z,h,x⟩:=aC x;exact(j z h).go (q z h) x⟩
theorem GP.bf{e:Option γ}{k:γ->Option β}(j:∀z (_:e=some z),GP C F ops σ0 acc os O X (k z) r True):GP C F ops σ0 acc os O X (e.bind k) r True:=⟨λq x=>by obtain⟨z,h,x⟩:=aC x;exact(j z h).go q x⟩
theorem GP.if{b:Bool}{u v:Option β}(h1:b=true->GP C F ops σ0 acc os O (λs=>Sub F s σ2) u r True)(h2:b=false->GP C F ops σ0 acc os O (λs=>Sub F s σ2) v r True):GP C F ops σ0 acc os O (λs=>Sub F s σ2) (bif b then u else v) r True:=⟨λq e=>by cases b;exact(h2 rfl).go q e;exact(h1 rfl).go q e⟩
end
structure KC (F:w8) (o:aBa) (O:AS) {γ:Type} (e:Option γ) (s:γ->Slot) (new:γ->List (Nat×j2)):Prop where
 h:∀z,e=some z->JO F o O (s z) (new z)
theorem GJ.cf{e:Option γ}{k:γ->Option β}{s:γ->Slot}{new:γ->List (Nat×j2)}{d':γ->List (Nat×j2)}(hg:GK ops g ⟨some t,op,ty,p,af,gd⟩ true)(h:KC F ⟨some t,op,ty,p,af,gd⟩ ⟨g,dd⟩ e s new)(hd:Nat.blt t F.N=true)(hf:∀z,AS.free ⟨g,dd⟩ (new z)=true)(hn:∀z,NL (new z++dd) (d' z))
  (j:∀z (_:e=some z),GJ C F ops os ⟨(t,s z)::g,d' z⟩ X (k z) r True):GJ C F ops (⟨some t,op,ty,p,af,gd⟩::os) ⟨g,dd⟩ X (e.bind k) r True:=⟨λ_ x=>by
 obtain⟨z,u,x⟩:=aC x;obtain⟨A,a,b⟩:=(j z u).go trivial x;rw[<-(hn z).eq] at a
 exact⟨A,J.cons hg (h.h z u) (hf z) hd a,b⟩⟩
theorem GJ.cr{e:Option γ}{k:γ->Option β}{s:γ->Slot}{new:γ->List (Nat×j2)}{d':γ->List (Nat×j2)}{R:∀z,e=some z->Prop}(hg:GK ops g ⟨some t,op,ty,p,af,gd⟩ true)(h:KC F ⟨some t,op,ty,p,af,gd⟩ ⟨g,dd⟩ e s new)(hd:Nat.blt t F.N=true)(hf:∀z,AS.free ⟨g,dd⟩ (new z)=true)(hn:∀z,NL (new z++dd) (d' z))
  (j:∀z (h:e=some z),GJ C F ops os ⟨(t,s z)::g,d' z⟩ X (k z) r (R z h)):GJ C F ops (⟨some t,op,ty,p,af,gd⟩::os) ⟨g,dd⟩ X (e.bind k) r (∀z h,R z h):=⟨λq x=>by
 obtain⟨z,u,x⟩:=aC x;obtain⟨A,a,b⟩:=(j z u).go (q z u) x;rw[<-(hn z).eq] at a
 exact⟨A,J.cons hg (h.h z u) (hf z) hd a,b⟩⟩
theorem GP.cr{acc:List E4}{σ0:AS}{e:Option γ}{k:γ->Option β}{s:γ->Slot}{new:γ->List (Nat×j2)}{d':γ->List (Nat×j2)}{R:∀z,e=some z->Prop}(hg:GK ops g ⟨some t,op,ty,p,af,gd⟩ true)(h:KC F ⟨some t,op,ty,p,af,gd⟩ ⟨g,dd⟩ e s new)(hd:Nat.blt t F.N=true)(hn:∀z,NL (new z++dd) (d' z))
  (j:∀z (h:e=some z),GP C F ops σ0 (⟨s z,new z,new z,Bv g ⟨some t,op,ty,p,af,gd⟩,[]⟩::acc) os ⟨(t,s z)::g,d' z⟩ X (k z) r (R z h)):GP C F ops σ0 acc (⟨some t,op,ty,p,af,gd⟩::os) ⟨g,dd⟩ X (e.bind k) r (∀z h,R z h):=⟨λq x=>by
 obtain⟨z,u,x⟩:=aC x;obtain⟨D,E,G,σ1,I,K,B,A⟩:=(j z u).go (q z u) x;rw[<-(hn z).eq] at B
 exact⟨_::D,E,_::G,σ1,I,by grind,.cons hg (h.h z u) hd B,A.1,A.2.1,by grind,A.2.2.2⟩⟩
theorem GP.cf{acc:List E4}{σ0:AS}{e:Option γ}{k:γ->Option β}{s:γ->Slot}{new:γ->List (Nat×j2)}{d':γ->List (Nat×j2)}(hg:GK ops g ⟨some t,op,ty,p,af,gd⟩ true)(h:KC F ⟨some t,op,ty,p,af,gd⟩ ⟨g,dd⟩ e s new)(hd:Nat.blt t F.N=true)(hn:∀z,NL (new z++dd) (d' z))
  (j:∀z (_:e=some z),GP C F ops σ0 (⟨s z,new z,new z,Bv g ⟨some t,op,ty,p,af,gd⟩,[]⟩::acc) os ⟨(t,s z)::g,d' z⟩ X (k z) r True):GP C F ops σ0 acc (⟨some t,op,ty,p,af,gd⟩::os) ⟨g,dd⟩ X (e.bind k) r True:=⟨λ_ x=>by
 obtain⟨z,A,x⟩:=aC x;obtain⟨D,E,G,σ1,I,K,B,u⟩:=(j z A).go trivial x;rw[<-(hn z).eq] at B
 exact⟨_::D,E,_::G,σ1,I,by grind,.cons hg (h.h z A) hd B,u.1,u.2.1,by grind,u.2.2.2⟩⟩
theorem aBx{e:Option γ}{f:aA6}{ss:List Slot}{res:γ->Slot}{xs:List aAp}{ts:Array aAg}[i:MC e F.P f ss res (λ_=>[])](ha:W7 O false xs ss):KC F ⟨d,.call ⟨.value (.func f),xs.toArray,ts⟩,ty,p,af,gd⟩ O e res (λ_=>[]):=⟨λ_ h=>cQ (i.E0 h) i.call ha⟩
theorem aBy{e:Option γ}{f:aA6}{ss:List Slot}{res:γ->Slot}{xs:List aAp}{ts:Array aAg}[i:MC e F.P f ss res (λ_=>[])](ha:W7 O true xs ss)(hf:∀z,D7 (res z)):KC F ⟨d,.call ⟨.value (.func f),xs.toArray,ts⟩,ty,p,af,gd⟩ O e res (λ_=>[]):=⟨λz h=>Oe (i.E0 h) i.call ha (hf z)⟩
theorem KC.c{e:Option γ}{f:aA6}{ss:List Slot}{res:γ->Slot}{new:γ->List (Nat×j2)}{xs:List aAp}{ts:Array aAg}[i:MC e F.P f ss res new](ha:W7 O false xs ss){s:γ->Slot}{n:γ->List (Nat×j2)}(D6:∀z,gH (res z) (new z)=true)(q1:∀z,SN ((res z).map (·+(t*1000+300))) (s z))(q2:∀z,sy (Gi (·+(t*1000+300)) (new z)) (n z)):KC F ⟨some t,.call ⟨.value (.func f),xs.toArray,ts⟩,ty,p,af,gd⟩ O e s n:=⟨λz h=>by rw[<-(q1 z).eq,<-(q2 z).eq];exact pK _ (i.E0 h) i.call ha (D6 z)⟩
theorem KC.l{e:Option γ}{f:aA6}{ss:List Slot}{res:γ->Slot}{new:γ->List (Nat×j2)}{xs:List aAp}{ts:Array aAg}[i:MC e F.P f ss res new](ha:W7 O true xs ss){s:γ->Slot}{n:γ->List (Nat×j2)}(D6:∀z,gH (res z) (new z)=true)(q1:∀z,SN ((res z).map (·+(t*1000+300))) (s z))(q2:∀z,sy (Gi (·+(t*1000+300)) (new z)) (n z))(hf:∀z,D7 (res z))(hn:∀z,M9 (new z)):KC F ⟨some t,.call ⟨.value (.func f),xs.toArray,ts⟩,ty,p,af,gd⟩ O e s n:=⟨λz h=>by rw[<-(q1 z).eq,<-(q2 z).eq];exact Ap _ (i.E0 h) i.call ha (D6 z) (hf z) (hn z)⟩
theorem aBz{e:Option γ}{f:aA6}{ss cap:List Slot}{res:γ->Slot}{x:aAp}{xs:List aAp}{ts:Array aAg}(hx:aV O.g x=some (.G0 f cap)){ss':List Slot}(ha:W7 O false xs ss)(i:MC e F.P f ss' res (λ_=>[]))(hs:ss'=ss++cap):KC F ⟨d,.call ⟨.value x,xs.toArray,ts⟩,ty,p,af,gd⟩ O e res (λ_=>[]):=⟨λ_ h=>EP hx (hs ▸ i.E0 h) i.call ha⟩
theorem GW.seq{x y:aBb}(h:GW C F (x::y::cs) O Q m r R):GW C F (.seq x y::cs) O Q m r R:=⟨λq e=>aQ (h.go q e)⟩
theorem GW.skip(h:GW C F cs O Q m r R):GW C F (.skip::cs) O Q m r R:=⟨λq e=>bN (h.go q e)⟩
theorem GW.reg{l:List aBa}(h:GJ C F l.toArray l O (λs=>W F cs s Q) m r R):GW C F (.region id l.toArray false::cs) O Q m r R:=⟨λq e=>by obtain⟨u,a,b⟩:=h.go q e;grind [pS]⟩
theorem GW.dr{l:List aBa}(hm:F.P.follows .mixedOrders=true)(V9:xS l.toArray=true)(hms:Rd l.toArray (Ga l.toArray)=true)(h:GP C F l.toArray O [] l O (λs=>W F cs s Q) m r R):GW C F (.region id l.toArray true::cs) O Q m r R:=⟨λq e=>by
 obtain⟨D,L,M,σ1,N,E,G,S,I,K,u,A,B⟩:=h.go q e;simp only[List.reverseAux] at u A B;rw[K] at u;subst E
 exact Om _ D.length _ hm (by simpa using G) (by grind) (by simp[Nat.ble_eq]) V9 hms u A B (λ_=>trivial) I⟩
theorem GW.cf{c:Tmp}{x y:aBb}{b:Bool}{u v:Option β}(hb:lk O.g c=some (.v Fu.bool b))(h1:b=true->GW C F (x::cs) O Q u r True)(h2:b=false->GW C F (y::cs) O Q v r True):GW C F (.cond (.tmp c) x y::cs) O Q (bif b then u else v) r True:=
 ⟨λ_ e=>yT hb (λhb=>(h1 hb).go trivial (by grind)) λhb=>(h2 hb).go trivial (by grind)⟩
theorem GW.c1{c:Tmp}{x y:aBb}{b:Bool}{u v:Option β}{R:b=false->Prop}(hb:lk O.g c=some (.v Fu.bool b))(h1:b=true->GW C F (x::cs) O Q u r True)(h2:∀h:b=false,GW C F (y::cs) O Q v r (R h)):GW C F (.cond (.tmp c) x y::cs) O Q (bif b then u else v) r (∀h,R h):=
 ⟨λq e=>yT hb (λhb=>(h1 hb).go trivial (by grind)) λhb=>(h2 hb).go (q hb) (by grind)⟩
theorem WB{c:Tmp}{x y:aBb}(hb:lk O.g c=some (.v Fu.bool true))(h:GW C F (x::cs) O Q m r R):GW C F (.cond (.tmp c) x y::cs) O Q m r R:=⟨λq e=>rV hb rfl (h.go q e)⟩
theorem WC{c:Tmp}{x y:aBb}(hb:lk O.g c=some (.v Fu.bool false))(h:GW C F (y::cs) O Q m r R):GW C F (.cond (.tmp c) x y::cs) O Q m r R:=⟨λq e=>tH hb rfl (h.go q e)⟩
theorem GW.bk{e:Option γ}{z:γ}{k:γ->Option β}(h:e=some z)(j:GW C F cs O Q (k z) r R):GW C F cs O Q (e.bind k) r R:=⟨λq x=>j.go q (by grind)⟩
theorem GW.b{e:Option γ}{k:γ->Option β}{R:∀z,e=some z->Prop}(j:∀z (h:e=some z),GW C F cs O Q (k z) r (R z h)):GW C F cs O Q (e.bind k) r (∀z h,R z h):=⟨λq x=>by obtain⟨z,h,x⟩:=aC x;exact(j z h).go (q z h) x⟩
theorem GW.bf{e:Option γ}{k:γ->Option β}(j:∀z (_:e=some z),GW C F cs O Q (k z) r True):GW C F cs O Q (e.bind k) r True:=⟨λq x=>by obtain⟨z,h,x⟩:=aC x;exact(j z h).go q x⟩
def nLp:aBb->Bool | .loop _=>false | _=>true
theorem GW.block{c:aBb}(hl:nLp c=true)(h:GW C F [c] O (Exit.inBlock id (Exit.then (Go.Sw.run F.fe F.P Q cs) Q)) m r R):GW C F (.block id c::cs) O Q m r R:=⟨λq e=>fC (h.go q e)⟩
theorem GW.bDq(h:GW C F cs O Q m r R):GW C F [] O (Exit.inBlock id (Exit.then (Go.Sw.run F.fe F.P Q cs) Q)) m r R:=⟨λq e=>kE (h.go q e)⟩
theorem GW.ret(h:GX C F O Q .ret m r R):GW C F (.ret::cs) O Q m r R:=⟨λq e=>cN (h.go q e)⟩
theorem GW.exit(h:GX C F O Q (.exit id) m r R):GW C F (.exit id::cs) O Q m r R:=⟨λq e=>tF (h.go q e)⟩
theorem GX.hit(h:GW C F cs O Q m r R):GX C F O (Exit.inBlock id (Exit.then (Go.Sw.run F.fe F.P Q cs) Q)) (.exit id) m r R:=⟨λq e=>XE (h.go q e)⟩
theorem GX.aZ9{id':Nat}{N:aBe->aAf->Prop}(G4:Nat.beq id' id=false)(h:GX C F O Q (.exit id') m r R):GX C F O (Exit.inBlock id (Exit.then N Q)) (.exit id') m r R:=⟨λq e=>QL G4 (h.go q e)⟩
theorem GX.ret{N:aBe->aAf->Prop}(h:GX C F O Q .ret m r R):GX C F O (Exit.inBlock id (Exit.then N Q)) .ret m r R:=⟨λq e=>xQ (h.go q e)⟩
section
variable {δ:Type}
theorem GW.lp{body:aBb}{step:α->Option (Step α (Ex δ β))}{a:α}{k:δ->Option β}(σs:α->AS)(σx:δ->AS)(h0:Sub F O (σs a))
  (h:∀o,(∀z,o=Ex.ret z->z=r)->∀y r',GW C F [body] (σs y) (LB F id σs σx o Q r') (step y) r' True) (hk:∀y,GW C F cs (σx y) Q (k y) r True):GW C F (.block id (.loop body)::cs) O Q (lp step a k) r True:=⟨λ_ e=>by
 obtain⟨o,A,B,D⟩:=uU e
 exact Nh σx A h0 (λy u=>(hk y).go trivial (B y u)) λy r' u=>(h o D y r').go trivial u⟩
theorem GW.next{σs:α->AS}{σx:δ->AS}{o:Ex δ γ}{a:α}{r:Step α (Ex δ γ)}(h:r= .next a->Sub F O (σs a)):GW C F [] O (LB F id σs σx o Q r) (some (.next a)) r True:=⟨λ_ e=>by cases e;exact vH (h rfl)⟩
theorem GX.u9{σs:α->AS}{σx:δ->AS}{o:Ex δ γ}{a:δ}{r:Step α (Ex δ γ)}(h:r= .done (.u9 a)->Sub F O (σx a)):GX C F O (LB F id σs σx o Q r) (.exit id) (some (.done (.u9 a))) r True:=⟨λ_ e=>by cases e;exact wM (h rfl)⟩
theorem GX.bJk{σs:α->AS}{σx:δ->AS}{o:Ex δ γ}{v w:γ}{r:Step α (Ex δ γ)}(hr:∀z,o= .ret z->z=w)(h:GX C F O Q .ret (some v) w R):GX C F O (LB F id σs σx o Q r) .ret (some (.done (.ret v))) r R:=⟨λq e=>by
 cases e;exact yX λu=>by obtain rfl:=hr _ u;exact h.go q rfl⟩
theorem LF{σs:α->AS}{σx:δ->AS}{o:Ex δ γ}{w:γ}{m:Option γ}{r:Step α (Ex δ γ)}(hr:∀z,o= .ret z->z=w)(h:GX C F O Q .ret m w R):GX C F O (LB F id σs σx o Q r) .ret (m.bind λz=>some (.done (.ret z))) r R:=⟨λq e=>by
 obtain⟨z,A,e⟩:=aC e
 cases e;exact yX λu=>by obtain rfl:=hr _ u;exact h.go q A⟩
theorem GX.bAb{i:Nat}{σs:α->AS}{σx:δ->AS}{o:Ex δ γ}{v w:γ}{r:Step α (Ex δ γ)}(G4:Nat.beq i id=false)(hr:∀z,o= .ret z->z=w)(h:GX C F O Q (.exit i) (some v) w R):GX C F O (LB F id σs σx o Q r) (.exit i) (some (.done (.ret v))) r R:=⟨λq e=>by
 cases e;exact Tp G4 λu=>by obtain rfl:=hr _ u;exact h.go q rfl⟩
theorem FU{i:Nat}{σs:α->AS}{σx:δ->AS}{o:Ex δ γ}{w:γ}{m:Option γ}{r:Step α (Ex δ γ)}(G4:Nat.beq i id=false)(hr:∀z,o= .ret z->z=w)(h:GX C F O Q (.exit i) m w R):GX C F O (LB F id σs σx o Q r) (.exit i) (m.bind λz=>some (.done (.ret z))) r R:=⟨λq e=>by
 obtain⟨z,A,e⟩:=aC e
 cases e;exact Tp G4 λu=>by obtain rfl:=hr _ u;exact h.go q A⟩
theorem GW.jn{c:Tmp}{x y:aBb}{b:Bool}{K:δ->Option β}(σx:δ->AS)(hb:lk O.g c=some (.v Fu.bool b))(hk:∀x,GW C F cs (σx x) Q (K x) r True)(u v:(δ->Option β)->Option β)(ht:∀k0,b=true->GW C F [x] O (JQ F σx (λx=>k0 x=some r) Q) (u k0) r True)(hf:∀k0,b=false->GW C F [y] O (JQ F σx (λx=>k0 x=some r) Q) (v k0) r True):
  GW C F (.cond (.tmp c) x y::cs) O Q (jp K λk0=>bif b then u k0 else v k0) r True:=⟨λ_ e=>by
 refine EG σx (λx=>K x=some r) hb (λx h=>(hk x).go trivial h) (λh=>?_) λh=>?_
 ·subst h;exact(ht K rfl).go trivial e
 ·subst h;exact(hf K rfl).go trivial e⟩
theorem GW.bAh{σx:δ->AS}{P:δ->Prop}{a:δ}(hP:(m=some r)=P a)(h:Sub F O (σx a)):GW C F [] O (JQ F σx P Q) m r True:=⟨λ_ e=>tI (hP ▸ e) h⟩
theorem GX.bJt{σx:δ->AS}{P:δ->Prop}(h:GX C F O Q .ret m r R):GX C F O (JQ F σx P Q) .ret m r R:=⟨λq e=>QP (h.go q e)⟩
theorem GX.bAi{i:Nat}{σx:δ->AS}{P:δ->Prop}(h:GX C F O Q (.exit i) m r R):GX C F O (JQ F σx P Q) (.exit i) m r R:=⟨λq e=>JE (h.go q e)⟩
theorem GW.bj{body:aBb}{K:δ->Option β}{B:(δ->Option β)->Option β}(σx:δ->AS)(hk:∀x,GW C F cs (σx x) Q (K x) r True)(h:∀k0,GW C F [body] O (BQ F id σx (λx=>k0 x=some r) Q) (B k0) r True):GW C F (.block id body::cs) O Q (jp K B) r True:=⟨λ_ e=>aEj σx (λx=>K x=some r) (λx h=>(hk x).go trivial h) ((h K).go trivial e)⟩
theorem GW.bD2{σx:δ->AS}{P:δ->Prop}{a:δ}(hP:(m=some r)=P a)(h:Sub F O (σx a)):GW C F [] O (BQ F id σx P Q) m r True:=⟨λ_ e=>QQ (hP ▸ e) h⟩
theorem GX.bOp{σx:δ->AS}{P:δ->Prop}{a:δ}(hP:(m=some r)=P a)(h:Sub F O (σx a)):GX C F O (BQ F id σx P Q) (.exit id) m r True:=⟨λ_ e=>QR (hP ▸ e) h⟩
theorem GX.bD1{i:Nat}{σx:δ->AS}{P:δ->Prop}(G4:Nat.beq i id=false)(h:GX C F O Q (.exit i) m r R):GX C F O (BQ F id σx P Q) (.exit i) m r R:=⟨λq e=>JF G4 (h.go q e)⟩
theorem GX.bOn{σx:δ->AS}{P:δ->Prop}(h:GX C F O Q .ret m r R):GX C F O (BQ F id σx P Q) .ret m r R:=⟨λq e=>QS (h.go q e)⟩
end
theorem GW.z:GW C F cs O Q m r (GW C F cs O Q m r True):=⟨λh e=>h.go trivial e⟩
theorem GJ.z:GJ C F ops os O X m r (GJ C F ops os O X m r True):=⟨λh e=>h.go trivial e⟩
theorem GX.z{e:aBd}:GX C F O Q e m r (GX C F O Q e m r True):=⟨λh x=>h.go trivial x⟩
def dl(c:Tmp):List (Nat×Slot)->List (Nat×Slot) | []=>[] | (i,s)::r=>bif Nat.beq i c then dl c r else (i,s)::dl c r
inductive GD:List Nat->List (Nat×Slot)->List (Nat×Slot)->Prop
 |nil {u:List Nat}:GD u [] []
 |no {u:List Nat} {i:Nat} {s:Slot} {r r':List (Nat×Slot)}:dK i u=true->GD u r r'->GD u ((i,s)::r) r'
 |yes {u:List Nat} {i:Nat} {s:Slot} {r r':List (Nat×Slot)}:dK i u=false->GD (i::u) r r'->GD u ((i,s)::r) ((i,s)::r')
theorem LG{u:List Nat}{l l':List (Nat×Slot)}(h:GD u l l':=by ((repeat (first | exact GD.nil | (apply GD.yes;exact rfl) | (apply GD.no;exact rfl)));fail_if_success focus skip)):GD u l l':=h
def QD:List (Nat×j2)->List (Nat×j2) | []=>[] | (i,e)::r=>(i,e)::rC (QD r) i
theorem aB0{l:List aBa}{c:Tmp}{g':List (Nat×Slot)}{d2:List (Nat×j2)}{u:Option Bool}{k:Bool->Option β}(hg:(l.any λo=>o.guard.isSome)=true)(hc:l.getLast?.bind (·.dst)=some c)(hn:GD [c] g g')(hn2:NL (QD dd) d2)(h:∀z,GJ C F l.toArray l ⟨g,dd⟩ (λs=>Sub F s ⟨(c,.v Fu.bool z)::g',d2⟩) u z True)(j:∀z,GW C F cs ⟨(c,.v Fu.bool z)::g',d2⟩ Q (k z) r True):GW C F (.region id l.toArray false::cs) ⟨g,dd⟩ Q (u.bind k) r True:=⟨λ_ x=>by
 obtain⟨z,A,x⟩:=aC x;obtain⟨σ1,a,b⟩:=(h z).go trivial A
 exact pS a (vI b ((j z).go trivial x))⟩
theorem aB1{l:List aBa}{c:Tmp}{g':List (Nat×Slot)}{d2:List (Nat×j2)}{u:Option Bool}{k:Bool->Option β}{R:Bool->Prop}(hg:(l.any λo=>o.guard.isSome)=true)(hc:l.getLast?.bind (·.dst)=some c)(hn:GD [c] g g')(hn2:NL (QD dd) d2)(h:∀z,GJ C F l.toArray l ⟨g,dd⟩ (λs=>Sub F s ⟨(c,.v Fu.bool z)::g',d2⟩) u z True)(j:∀z,GW C F cs ⟨(c,.v Fu.bool z)::g',d2⟩ Q (k z) r (R z)):GW C F (.region id l.toArray false::cs) ⟨g,dd⟩ Q (u.bind k) r (∀z,R z):=⟨λq x=>by
 obtain⟨z,A,x⟩:=aC x;obtain⟨σ1,a,b⟩:=(h z).go trivial A
 exact pS a (vI b ((j z).go (q z) x))⟩
theorem WD{l:List aBa}{c:Tmp}{g':List (Nat×Slot)}{d2:List (Nat×j2)}{u:Option Bool}{k:Bool->Option β}(hg:(l.any λo=>o.guard.isSome)=true)(hc:l.getLast?.bind (·.dst)=some c)(hn:GD [c] g g')(hn2:NL (QD dd) d2)(hm:F.P.follows .mixedOrders=true)(V9:xS l.toArray=true)(hms:Rd l.toArray (Ga l.toArray)=true)(h:∀z,GP C F l.toArray ⟨g,dd⟩ [] l ⟨g,dd⟩ (λs=>Sub F s ⟨(c,.v Fu.bool z)::g',d2⟩) u z True)(j:∀z,GW C F cs ⟨(c,.v Fu.bool z)::g',d2⟩ Q (k z) r True):GW C F (.region id l.toArray true::cs) ⟨g,dd⟩ Q (u.bind k) r True:=⟨λ_ x=>by
 obtain⟨z,E,x⟩:=aC x;obtain⟨G,N,its,σ1,O,I,K,R,L,M,A,B,D⟩:=(h z).go trivial E;simp only[List.reverseAux] at A B D;rw[M] at A;subst I
 exact Om (its:=its) (σ1:=σ1) _ G.length _ hm (by simpa using K) (by grind) (by simp[Nat.ble_eq]) V9 hms A B D (λ_=>trivial) (vI L ((j z).go trivial x))⟩
theorem aB2{l:List aBa}{c:Tmp}{g':List (Nat×Slot)}{d2:List (Nat×j2)}{u:Option Bool}{k:Bool->Option β}{R:Bool->Prop}(hg:(l.any λo=>o.guard.isSome)=true)(hc:l.getLast?.bind (·.dst)=some c)(hn:GD [c] g g')(hn2:NL (QD dd) d2)(hm:F.P.follows .mixedOrders=true)(V9:xS l.toArray=true)(hms:Rd l.toArray (Ga l.toArray)=true)(h:∀z,GP C F l.toArray ⟨g,dd⟩ [] l ⟨g,dd⟩ (λs=>Sub F s ⟨(c,.v Fu.bool z)::g',d2⟩) u z True)(j:∀z,GW C F cs ⟨(c,.v Fu.bool z)::g',d2⟩ Q (k z) r (R z)):GW C F (.region id l.toArray true::cs) ⟨g,dd⟩ Q (u.bind k) r (∀z,R z):=⟨λq x=>by
 obtain⟨z,E,x⟩:=aC x;obtain⟨G,N,its,σ1,O,I,K,S,L,M,A,B,D⟩:=(h z).go trivial E;simp only[List.reverseAux] at A B D;rw[M] at A;subst I
 exact Om (its:=its) (σ1:=σ1) _ G.length _ hm (by simpa using K) (by grind) (by simp[Nat.ble_eq]) V9 hms A B D (λ_=>trivial) (vI L ((j z).go (q z) x))⟩
theorem Ys{l:List aBa}{u:Option γ}{k:γ->Option β}(O':γ->AS)(h:∀z,GJ C F l.toArray l O (λs=>Sub F s (O' z)) u z True)(j:∀z,GW C F cs (O' z) Q (k z) r True):GW C F (.region id l.toArray false::cs) O Q (u.bind k) r True:=⟨λ_ x=>by
 obtain⟨z,A,x⟩:=aC x;obtain⟨σ1,a,b⟩:=(h z).go trivial A
 exact pS a (vI b ((j z).go trivial x))⟩
end
def nf:aA9->Nat | .struct fs=>fs.size | _=>0
inductive SpR:Nat->{α:Type}->List Slot->Fu α->α->Prop
 |z {α:Type} {e:Fu α} {v:α}:SpR 1 [.v e v] e v
 |c {k:Nat} {α β:Type} {a:Fu α} {b:Fu β} {v:α×β} {l:List Slot}:SpR (k+1) l b v.2->SpR (k+2) (.v a v.1::l) (Fu.pr a b) v
theorem SpR.vz{k:Nat}{α:Type}{l:List Slot}{e:Fu α}{v:α}(h:SpR k l e v):X7 l e v:=by
 induction h with
 |z=>exact .one _ _
 |c _ u=>exact X7.pr (.one _ _) u
inductive zg:Nat->{α:Type}->List Slot->Fu α->α->Prop
 |z {α:Type} {e:Fu α} {v:α}:zg 0 [.v e v] e v
 |o {α:Type} {a:Fu α} {v:α}:zg 1 [.v a v] (Fu.ah a) v
 |c {k:Nat} {α:Type} {e:Fu α} {v:α} {l:List Slot}:SpR (k+2) l e v->zg (k+2) l e v
theorem zg.vz{k:Nat}{α:Type}{l:List Slot}{e:Fu α}{v:α}(h:zg k l e v):X7 l e v:=by
 cases h with
 |z=>exact .one _ _
 |o=>exact .ah (.one _ _)
 |c h=>exact h.vz
inductive ug:Nat->{α:Type}->List Slot->Fu α->α->Prop
 |z {α:Type} {e:Fu α} {v:α}:ug 0 [.v e v] e v
 |o {α:Type} {a:Fu α} {v:α}:ug 1 [.v a v] (Fu.ah a) v
 |t {α β:Type} {a:Fu α} {b:Fu β} {x:α} {y:β}:ug 2 [.v a x,.v b y] (Fu.pr a b) (x,y)
 |c {k:Nat} {α β:Type} {a:Fu α} {b:Fu β} {x:α} {y:β} {l:List Slot}:ug (k+2) l b y->ug (k+3) (.v a x::l) (Fu.pr a b) (x,y)
theorem ug.vz{k:Nat}{α:Type}{l:List Slot}{e:Fu α}{v:α}(h:ug k l e v):X7 l e v:=by
 induction h with
 |z=>exact .one _ _
 |o=>exact .ah (.one _ _)
 |t=>exact X7.C8 (.one _ _) (.one _ _)
 |c _ u=>exact X7.C8 (l:=[_]) (.one _ _) u
inductive PjR:Nat->Nat->{α:Type}->Fu α->α->Nat->{β:Type}->Fu β->β->Prop
 |h {α:Type} {e:Fu α} {v:α}:PjR 0 1 e v 0 e v
 |f {k:Nat} {α β:Type} {a:Fu α} {b:Fu β} {v:α×β}:PjR 0 (k+2) (Fu.pr a b) v 0 a v.1
 |s {m k off:Nat} {α β γ:Type} {a:Fu α} {b:Fu β} {v:α×β} {e:Fu γ} {w:γ}:PjR m (k+1) b v.2 off e w->PjR (m+1) (k+2) (Fu.pr a b) v (a.n+off) e w
theorem PjR.prj{m k off:Nat}{α β:Type}{e:Fu α}{v:α}{e':Fu β}{v':β}(h:PjR m k e v off e' v'):Prj e v off e' v':=by
 induction h with
 |h=>exact .here
 |f=>exact .fst .here
 |s _ u=>exact .snd u
inductive PjK:Nat->Nat->{α:Type}->Fu α->α->Nat->{β:Type}->Fu β->β->Prop
 |o {α:Type} {e:Fu α} {v:α}:PjK 0 1 (Fu.ah e) v 0 e v
 |c {m k off:Nat} {α β:Type} {e:Fu α} {v:α} {e':Fu β} {v':β}:PjR m (k+2) e v off e' v'->PjK m (k+2) e v off e' v'
theorem PjK.prj{m k off:Nat}{α β:Type}{e:Fu α}{v:α}{e':Fu β}{v':β}(h:PjK m k e v off e' v'):Prj e v off e' v':=by
 cases h with
 |o=>exact .ah .here
 |c h=>exact h.prj
theorem WE{k:Nat}{α:Type}{l:List Slot}{e:Fu α}{v:α}(h:zg k l e v:=by first
 |exact .z
 |exact .o
 | (apply zg.c;(repeat (first | exact .z | apply SpR.c));fail_if_success focus skip)):zg k l e v:=h
theorem LH{k:Nat}{α:Type}{l:List Slot}{e:Fu α}{v:α}(h:ug k l e v:=by ((repeat (first | exact .z | exact .o | exact .t | apply ug.c));fail_if_success focus skip)):ug k l e v:=h
theorem pjk{m k off:Nat}{α β:Type}{e:Fu α}{v:α}{e':Fu β}{v':β}(h:PjK m k e v off e' v':=by first
 |exact .o
 | (apply PjK.c;(repeat (first | exact .h | exact .f | apply PjR.s));fail_if_success focus skip)):PjK m k e v off e' v':=h
mutual
def XV:Slot->Slot->List (Nat×Nat) | .ref i,.ref j=>[(j,i)] | .ptr i _,.ptr j _=>[(j,i)] | .agg l,.agg l'=>SA l l' | .G0 _ l,.G0 _ l'=>SA l l' | _,_=>[]
def SA:List Slot->List Slot->List (Nat×Nat) | s::l,s'::l'=>XV s s'++SA l l' | _,_=>[]
end
def aB3(g:List (Nat×Slot)):List (Nat×Slot)->List (Nat×Nat)
 | []=>[]
 | (t,u)::r=>(match lk g t with | some s=>XV s u | none=>[])++aB3 g r
def aEo:Option j2->Option j2->List (Nat×Nat) | some (.box _ l _),some (.box _ l' _)=>SA l l' | some (.dp _ _ ls),some (.dp _ _ ls')=>ls'.zip ls | _,_=>[]
def LI(d d':List (Nat×j2))(p:List (Nat×Nat)):List (Nat×Nat):=p++p.flatMap λx=>aEo (aF d x.2) (aF d' x.1)
def sdD(d:List (Nat×j2)):List (Nat×j2)->List (Nat×Nat)
 | (j,.box _ _ _)::r=>(match aF d j with | some (.box _ _ _)=>[(j,j)] | _=>[])++sdD d r
 |_::r=>sdD d r
 | []=>[]
theorem BZ{O:AS}{r:Nat->Nat}{ls:List Nat}:∀{l:List Slot},l.map (Slot.map r)=l->kj O r ls l l
 | [],_=> .nil
 |s::l,h=>by
  simp[V0,aG7] at h;exact .c h.1.symm (BZ h.2)
theorem ki.fP{O:AS}{r:Nat->Nat}{ls:List Nat}{α:Type}{j:Nat}{T:aAg}{l:List Slot}{pb:Option Nat}{e:Fu α}{z:α}(he:aF O.d j=some (.box T l pb))(ha:ls.all (λi=> !Nat.beq (r i) j)=true)(hm:l.map (Slot.map r)=l)(hs:X7 l e z):ki O r ls (.ptr j 0) (.B8 e z):= .fx he ha (BZ hm) hs
theorem cvl{O:AS}{r:Nat->Nat}{ls:List Nat}{l l':List Slot}(h:kj O r ls l l':=by ((repeat (first | exact .nil | refine .c rfl ?_ | refine .cons (.oh rfl rfl) ?_ | (apply kj.cons;(apply ki.fP;exact rfl;exact rfl;exact rfl;exact ug.vz LH))));fail_if_success focus skip)):kj O r ls l l':=h
theorem cvs{O:AS}{r:Nat->Nat}{ls:List Nat}{s s':Slot}(h:ki O r ls s s':=by first
 |exact .of_eq rfl
 |exact .oh rfl rfl
 | (apply ki.fP;exact rfl;exact rfl;exact rfl;exact ug.vz LH)
 |exact .pack cvl (by first | exact(ug.vz LH) | exact .one _ _) rfl
 |exact .agg cvl
 |exact .G0 cvl):ki O r ls s s':=h
theorem sb{F:w8}{O O':AS}{q0 q1 q:List (Nat×Nat)}(h0:NL (aB3 O.g O'.g++sdD O.d O'.d) q0:=by exact nl)(h1:NL (LI O.d O'.d q0) q1:=by exact nl)(hq:NL (LI O.d O'.d q1) q:=by exact nl)(hg:ou O (rn q) (O'.d.map (·.1)) O'.g:=by ((repeat (first | exact .nil | refine .c rfl ?_ | refine .cons rfl cvs ?_));fail_if_success focus skip))
  (hd:Z2 O (rn q) (O'.d.map (·.1)) O'.d:=by ((repeat (first | exact .nil | refine .arr rfl ?_ | refine .mp rfl ?_ | refine .box rfl cvl ?_ | refine .aWu rfl cvl ?_ | refine .dp rfl ?_));fail_if_success focus skip))
  (hi:Ng (rn q) (O'.d.map (·.1))=true:=by rfl):Sub F O O':=Sub.mk _ hg hd hi
inductive T1 (P:aA5):ResultVar->Slot->Nat->Nat×Slot->List (Nat×j2)->Prop
 |t {t:Tmp} {s:Slot} {k:Nat}:T1 P (.tmp t) s k (t,s) []
 |all {c:Tmp} {T:aAg} {u:aA9} {n:Nat} {b:Bool} [TT P T u n b] {α:Type} {e:Fu α} {v:α} {k:Nat} {l:List Slot}:zg (nf u) l e v->T1 P (.cell c T) (.v e v) k (c,.ptr k 0) [(k,.box T l)]
 |agg {c:Tmp} {T:aAg} {k:Nat} {l:List Slot}:T1 P (.cell c T) (.agg l) k (c,.ptr k 0) [(k,.box T l)]
 |at {c:Tmp} {T:aAg} {k:Nat} {s:Slot}:T1 P (.cell c T) s k (c,.ptr k 0) [(k,.box T [s])]
theorem aB5{F:w8}{O:AS}{pb:Option Nat}{α:Type}{e:Fu α}{z:α}{T U:aAg}{u:aA9}{n:Nat}{b:Bool}[h:TT F.P U u n b]{l:List Slot}{i c:Nat}(hx:lk O.g c=some (.ptr i 0))(he:aF O.d i=some (.box T l pb))(hl:zg (nf u) l e z)(ha:e.agg=b)(hs:e.n=n):RV F O (.cell c U) (.v e z):=pX hx he hl.vz (Ek ha) (lK hs)
theorem aB6{F:w8}{O:AS}{pb:Option Nat}{s:Slot}{T U:aAg}{u:aA9}{n:Nat}{b:Bool}[h:TT F.P U u n b]{l:List Slot}{i c:Nat}(hx:lk O.g c=some (.ptr i 0))(he:aF O.d i=some (.box T l pb))(ho:jJ l 0=some s)(ha:s.ag=b)(hs:s.sz=n):RV F O (.cell c U) s:=mT hx he ho (Ek ha) (lK hs)
theorem aB7{F:w8}{O:AS}{pb:Option Nat}{T U:aAg}{u:aA9}{n:Nat}{b:Bool}[h:TT F.P U u n b]{l:List Slot}{i c:Nat}(hx:lk O.g c=some (.ptr i 0))(he:aF O.d i=some (.box T l pb))(hb:b=true)(hn:(l.map Slot.sz).sum=n):RV F O (.cell c U) (.agg l):=Xx hx he hn (Ek hb.symm) h.s
theorem rv{F:w8}{O:AS}{v:ResultVar}{s:Slot}(h:RV F O v s:=by first
 |exact RV.tmp rfl
 |exact aB6 rfl rfl rfl rfl rfl
 |exact aB5 rfl rfl WE rfl rfl
 |exact aB7 rfl rfl rfl rfl):RV F O v s:=h
theorem t1{P:aA5}{v:ResultVar}{s:Slot}{k:Nat}{y:Nat×Slot}{ex:List (Nat×j2)}(h:T1 P v s k y ex:=by first
 |exact .t
 |exact .agg
 |exact .all WE
 |exact .at):T1 P v s k y ex:=h
theorem QE{l m:List (Nat×j2)}(h:K5 l m:=by ((repeat (first | exact .nil | refine .cons rfl ?_));fail_if_success focus skip)):K5 l m:=h
section
variable {fn:Func}{v0 v1 v2 v3 v4:ResultVar}{s1 s2 s3 s4:Slot}{y0 y1 y2 y3 y4:Nat×Slot}{e0 e1 e2 e3 e4:List (Nat×j2)}{m:Option β}{r a:β}
theorem aB8(hF:bp F F')(hR:∀k,¬F.R k)(N3:fn.results= #[v0])(h0:T1 F.P v0 s0 90 y0 e0)(hs:Sub F' O ⟨[y0],e0++new⟩)(r0:RV F ⟨[y0],e0++new⟩ v0 s0)(hn:K5 new (e0++new))(D6:gH s0 new=true):XQ F' O (Ad F fn s0 new) .ret:=kO hs (vQ hF hR N3 r0 hn D6)
theorem aB9(hF:bp F F')(hR:∀k,¬F.R k)(N3:fn.results= #[v0,v1])(h0:T1 F.P v0 s0 90 y0 e0)(h1:T1 F.P v1 s1 91 y1 e1)(hs:Sub F' O ⟨[y0,y1],e0++(e1++new)⟩)(r0:RV F ⟨[y0,y1],e0++(e1++new)⟩ v0 s0)(r1:RV F ⟨[y0,y1],e0++(e1++new)⟩ v1 s1)(hn:K5 new (e0++(e1++new)))(D6:gH (.q9 [s0,s1]) new=true):XQ F' O (Ad F fn (.q9 [s0,s1]) new) .ret:=kO hs (tG hF hR N3 r0 r1 hn D6)
theorem aCa(hF:bp F F')(hR:∀k,¬F.R k)(N3:fn.results= #[v0,v1,v2])(h0:T1 F.P v0 s0 90 y0 e0)(h1:T1 F.P v1 s1 91 y1 e1)(h2:T1 F.P v2 s2 92 y2 e2)(hs:Sub F' O ⟨[y0,y1,y2],e0++(e1++(e2++new))⟩)(r0:RV F ⟨[y0,y1,y2],e0++(e1++(e2++new))⟩ v0 s0)(r1:RV F ⟨[y0,y1,y2],e0++(e1++(e2++new))⟩ v1 s1)(r2:RV F ⟨[y0,y1,y2],e0++(e1++(e2++new))⟩ v2 s2)(hn:K5 new (e0++(e1++(e2++new))))(D6:gH (.q9 [s0,s1,s2]) new=true):XQ F' O (Ad F fn (.q9 [s0,s1,s2]) new) .ret:=kO hs (QM hF hR N3 r0 r1 r2 hn D6)
theorem aCb(hF:bp F F')(hR:∀k,¬F.R k)(N3:fn.results= #[v0,v1,v2,v3])(h0:T1 F.P v0 s0 90 y0 e0)(h1:T1 F.P v1 s1 91 y1 e1)(h2:T1 F.P v2 s2 92 y2 e2)(h3:T1 F.P v3 s3 93 y3 e3)(hs:Sub F' O ⟨[y0,y1,y2,y3],e0++(e1++(e2++(e3++new)))⟩)(r0:RV F ⟨[y0,y1,y2,y3],e0++(e1++(e2++(e3++new)))⟩ v0 s0)(r1:RV F ⟨[y0,y1,y2,y3],e0++(e1++(e2++(e3++new)))⟩ v1 s1)(r2:RV F ⟨[y0,y1,y2,y3],e0++(e1++(e2++(e3++new)))⟩ v2 s2)(r3:RV F ⟨[y0,y1,y2,y3],e0++(e1++(e2++(e3++new)))⟩ v3 s3)(hn:K5 new (e0++(e1++(e2++(e3++new)))))(D6:gH (.q9 [s0,s1,s2,s3]) new=true):XQ F' O (Ad F fn (.q9 [s0,s1,s2,s3]) new) .ret:=kO hs (QZ hF hR N3 r0 r1 r2 r3 hn D6)
theorem aCc(hF:bp F F')(hR:∀k,¬F.R k)(N3:fn.results= #[v0,v1,v2,v3,v4])(h0:T1 F.P v0 s0 90 y0 e0)(h1:T1 F.P v1 s1 91 y1 e1)(h2:T1 F.P v2 s2 92 y2 e2)(h3:T1 F.P v3 s3 93 y3 e3)(h4:T1 F.P v4 s4 94 y4 e4){dd:List (Nat×j2)}(hd:NL (e0++(e1++(e2++(e3++(e4++new))))) dd)(hs:Sub F' O ⟨[y0,y1,y2,y3,y4],dd⟩)(r0:RV F ⟨[y0,y1,y2,y3,y4],dd⟩ v0 s0)(r1:RV F ⟨[y0,y1,y2,y3,y4],dd⟩ v1 s1)(r2:RV F ⟨[y0,y1,y2,y3,y4],dd⟩ v2 s2)(r3:RV F ⟨[y0,y1,y2,y3,y4],dd⟩ v3 s3)(r4:RV F ⟨[y0,y1,y2,y3,y4],dd⟩ v4 s4)(hn:K5 new dd)(D6:gH (.q9 [s0,s1,s2,s3,s4]) new=true):XQ F' O (Ad F fn (.q9 [s0,s1,s2,s3,s4]) new) .ret:=kO hs (RA hF hR N3 r0 r1 r2 r3 r4 hn D6)
theorem xq{e:aBd}{fn:Func}{s:Slot}(h:XQ F' O (Ad F fn s new) e:=by first
 | (apply aB8;assumption;exact Kk;exact rfl;exact t1;exact sb;exact rv;exact QE;exact rfl)
 | (apply aB9;assumption;exact Kk;exact rfl;exact t1;exact t1;exact sb;exact rv;exact rv;exact QE;exact rfl)
 | (apply aCa;assumption;exact Kk;exact rfl;exact t1;exact t1;exact t1;exact sb;exact rv;exact rv;exact rv;exact QE;exact rfl)
 | (apply aCb;assumption;exact Kk;exact rfl;exact t1;exact t1;exact t1;exact t1;exact sb;exact rv;exact rv;exact rv;exact rv;exact QE;exact rfl)
 | (apply aCc;assumption;exact Kk;exact rfl;exact t1;exact t1;exact t1;exact t1;exact t1;exact nl;exact sb;exact rv;exact rv;exact rv;exact rv;exact rv;exact QE;exact rfl)):XQ F' O (Ad F fn s new) e:=h
end
section
variable {F8:Bool}
theorem arg{x:aAp}{s:Slot}(h:Arg O F8 x s:=by first
 |exact .dir rfl
 |exact .wj _
 |exact .aKs _
 |exact .ref rfl rfl
 | (apply EL;exact rfl;exact rfl;first | exact ug.vz LH | exact zg.vz WE)
 | (apply Arg.agg;exact rfl;(repeat (first | exact pd.nil | apply pd.same | (apply pd.ref;exact rfl;exact rfl)));(first | exact ug.vz LH | exact zg.vz WE);exact rfl)
 | (apply EM;exact rfl;(repeat (first | exact uj.nil | (apply uj.ptr;exact rfl;first | exact ug.vz LH | exact zg.vz WE)));fail_if_success focus skip)
 |exact .fn):Arg O F8 x s:=h
theorem args{xs:List aAp}{ss:List Slot}(h:W7 O F8 xs ss:=by ((repeat (first | exact .nil | (apply W7.cons;exact arg)));fail_if_success focus skip)):W7 O F8 xs ss:=h
theorem CA:∀l:List Slot,pd O false l l | []=> .nil | _::l=> .same (CA l)
theorem LJ{pl:Array (Nat×Nat)}{l l':List Slot}{i off:Nat}{α:Type}{e:Fu α}{w:List α}{rest:List (Nat×aAp)}(h:pl[i]? =some (off,1))(ho:jJ l off=some (.v (Fu.sl e) w))(k:H6 O pl (jK l off (.v (Fu.sl e) [])) rest l'):H6 O pl l ((i,.const (.slice none 0 0))::rest) l':= .cons h (.wj e) rfl rfl ho rfl k
theorem LK{pl:Array (Nat×Nat)}{l l':List Slot}{i off:Nat}{T:aAg}{w:Option Int}{rest:List (Nat×aAp)}(h:pl[i]? =some (off,1))(ho:jJ l off=some (.v (Fu.err T) w))(k:H6 O pl (jK l off (.v (Fu.err T) none)) rest l'):H6 O pl l ((i,.const .nilIface)::rest) l':= .cons h (.aKs T) rfl rfl ho rfl k
theorem H6.d{pl:Array (Nat×Nat)}{l l':List Slot}{i off n:Nat}{x:aAp}{s s0:Slot}{rest:List (Nat×aAp)}(h:pl[i]? =some (off,n))(hx:aV O.g x=some s)(hp:s.plain=true)(hs:s.sz=n)(ho:jJ l off=some s0)(h0:s0.sz=n)(k:H6 O pl (jK l off s) rest l'):H6 O pl l ((i,x)::rest) l':= .cons h (.dir hx) hp hs ho h0 k
theorem H6.g{pl:Array (Nat×Nat)}{l l':List Slot}{i off n:Nat}{x:aAp}{α:Type}{e:Fu α}{v:α}{l0:List Slot}{w:α}{rest:List (Nat×aAp)}(h:pl[i]? =some (off,n))(hx:aV O.g x=some (.agg l0))(ho:jJ l off=some (.v e w))(hl:X7 l0 e v)(ha:e.agg=true)(hs:e.n=n)(k:H6 O pl (jK l off (.v e v)) rest l'):H6 O pl l ((i,x)::rest) l':= .cons h (Arg.agg hx (CA l0) hl ha) rfl hs ho hs k
theorem parts{pl:Array (Nat×Nat)}{l l':List Slot}{ps:List (Nat×aAp)}(h:H6 O pl l ps l':=by ((repeat (first | exact .nil | (apply H6.d;exact rfl;exact rfl;exact rfl;exact rfl;exact rfl;exact rfl) | (apply LJ;exact rfl;exact rfl) | (apply LK;exact rfl;exact rfl) | (apply H6.g;exact rfl;exact rfl;exact rfl;exact(ug.vz LH);exact rfl;exact rfl)));fail_if_success focus skip)):H6 O pl l ps l':=h
theorem LL{α:Type}{e:Fu α}{k:Nat}{ps:List (Nat×aAp)}{zs:List α}(h:N0 O e k ps zs:=by ((repeat (first | exact .nil | (apply N0.cons;exact arg)));fail_if_success focus skip)):N0 O e k ps zs:=h
theorem src{y:aAp}{α:Type}{e:Fu α}{ys:List α}(h:Src O y e ys:=by first
 |exact .sl rfl
 |exact .ref rfl rfl
 |exact .qh rfl
 |exact .T9 rfl rfl rfl rfl):Src O y e ys:=h
theorem fls{s:Slot}(h:D7 s:=by first
 |exact D7.v
 |exact D7.ref
 | (apply D7.q9;(repeat (first | exact .nil | apply P6.v | apply P6.ref));fail_if_success focus skip)
 | (apply D7.agg;(repeat (first | exact .nil | apply P6.v | apply P6.ref));fail_if_success focus skip)):D7 s:=h
end
theorem Z4.k{P:aA5}{f:aA8}{fs:List aA8}{n off:Nat}{l:List (Nat×Nat)}(h:Z4 P fs l)(h0:f.offset=off:=by exact rfl)(h1:P.cellsOf f.type=n:=by kernel_rfl)(h2:(P.info? f.type).isSome=true:=by kernel_rfl):Z4 P (f::fs) ((off,n)::l):= .cons h0 h1 h2 h
theorem Yt{P:aA5}{f:aA6}{fn:Func}{c:aBb}(hf:P.funcs[f]? =some fn)(hb:fn.body=some c)(hn:(fn.name== "runtime.NumGoroutine")=false):∀args w,(callFunc f args).run P w= .ok (.enter f args) w:=λargs w=>by
 simp_all [callFunc]
class F6 {β:Type} (m:Option β) (P:outParam aA5) (f:outParam aA6) (ss:outParam (List Slot)) (D:outParam ((Nat->Nat)->List (Nat×j2))) (res:outParam (β->Slot)) (new:outParam ((Nat->Nat)->β->List (Nat×j2))):Prop where
 E0:∀A {r},m=some r->A3 P f ss (D A) (res r) (new A r)
 call:∀args w,(callFunc f args).run P w= .ok (.enter f args) w
inductive RN:List (Nat×Nat)->Nat->Nat->Prop
 |hd {a b i:Nat} {q:List (Nat×Nat)}:Nat.beq a i=true->RN ((a,b)::q) i b
 |tl {a b i j:Nat} {q:List (Nat×Nat)}:Nat.beq a i=false->RN q i j->RN ((a,b)::q) i j
theorem RN.eq{q:List (Nat×Nat)}{i j:Nat}(h:RN q i j):vJ q i=j:=by
 induction h<;>grind [vJ,tl]
mutual
inductive SM (q:List (Nat×Nat)):Slot->Slot->Prop
 |v {α:Type} {e:Fu α} {a:α}:SM q (.v e a) (.v e a)
 |ref {i j:Nat}:RN q i j->SM q (.ref i) (.ref j)
 |ptr {i j o:Nat}:RN q i j->SM q (.ptr i o) (.ptr j o)
 |agg {l l':List Slot}:xh q l l'->SM q (.agg l) (.agg l')
 |q9 {l l':List Slot}:xh q l l'->SM q (.q9 l) (.q9 l')
 | G0 {g:Nat} {l l':List Slot}:xh q l l'->SM q (.G0 g l) (.G0 g l')
 | B8 {α:Type} {e:Fu α} {a:α}:SM q (.B8 e a) (.B8 e a)
inductive xh (q:List (Nat×Nat)):List Slot->List Slot->Prop
 |nil:xh q [] []
 |cons {s s':Slot} {l l':List Slot}:SM q s s'->xh q l l'->xh q (s::l) (s'::l')
end
mutual
theorem SM.eq{q:List (Nat×Nat)}:∀{s s':Slot},SM q s s'->s.map (vJ q)=s'
 |_,_,.v=>by simp only[Slot.map]
 |_,_,.ref h=>by simp only[Slot.map,h.eq]
 |_,_,.ptr h=>by simp only[Slot.map,h.eq]
 |_,_,.agg h=>by simp only[Slot.map,xh.eq h]
 |_,_,.q9 h=>by simp only[Slot.map,xh.eq h]
 |_,_,.G0 h=>by simp only[Slot.map,xh.eq h]
 |_,_,.B8=>by simp only[Slot.map]
theorem xh.eq{q:List (Nat×Nat)}:∀{l l':List Slot},xh q l l'->dB (vJ q) l=l'
 |_,_,.nil=>by simp only[dB]
 |_,_,.cons h k=>by simp only[dB,SM.eq h,xh.eq k]
end
inductive RNL (q:List (Nat×Nat)):List Nat->List Nat->Prop
 |nil:RNL q [] []
 |cons {i j:Nat} {l l':List Nat}:RN q i j->RNL q l l'->RNL q (i::l) (j::l')
theorem RNL.eq{q:List (Nat×Nat)}{l l':List Nat}(h:RNL q l l'):l.map (vJ q)=l':=by
 induction h with
 |nil=>rfl
 |cons h _ u=>rw[V0,h.eq,u]
inductive DI (O:AS) (q:List (Nat×Nat)) (A:Nat->Nat):List (Nat×j2)->List Nat->Prop
 |nil:DI O q A [] []
 |box {i j:Nat} {T:aAg} {l l':List Slot} {pb:Option Nat} {ds:List (Nat×j2)} {H:List Nat}:RN q i j->aF O.d j=some (.box T l' pb)->xh q l l'->DI O q A ds H->DI O q A ((i,.box T l (some (A i)))::ds) (j::H)
 |arr {α:Type} {i j:Nat} {T:aAg} {e:Fu α} {xs:List α} {ds:List (Nat×j2)} {H:List Nat}:RN q i j->aF O.d j=some (.arr T e xs)->DI O q A ds H->DI O q A ((i,.arr T e xs)::ds) (j::H)
 |mp {α β:Type} {i j:Nat} {e:Fu α} {f:Fu β} {m:List (α×β)} {ds:List (Nat×j2)} {H:List Nat}:RN q i j->aF O.d j=some (.mp e f m)->DI O q A ds H->DI O q A ((i,.mp e f m)::ds) (j::H)
 |dp {α:Type} {i j:Nat} {D:DE α} {x:α} {l l':List Nat} {ds:List (Nat×j2)} {H:List Nat}:RN q i j->aF O.d j=some (.dp D x l')->RNL q l l'->DI O q A ds H->DI O q A ((i,.dp D x l)::ds) (j::H)
theorem DI.C5{O:AS}{q:List (Nat×Nat)}{A:Nat->Nat}{ds:List (Nat×j2)}{H:List Nat}(h:DI O q A ds H):T3 O (vJ q) A ds:=by
 induction h with
 |nil=>exact .nil
 |box u C D _ B=>exact .box (by rw[u.eq,D.eq];omega) B
 |arr u C _ B=>exact .arr (by rw[u.eq]<;>omega) B
 |mp u C _ B=>exact .mp (by rw[u.eq];grind) B
 |dp u C D _ B=>exact .dp (by rw[u.eq,D.eq]<;>grind) B
theorem DI.H{O:AS}{q:List (Nat×Nat)}{A:Nat->Nat}{ds:List (Nat×j2)}{H:List Nat}(h:DI O q A ds H):ds.map (λx=>vJ q x.1)=H:=by
 induction h with
 |nil=>rfl
 |box u _ _ _ B=>rw[V0,B,u.eq]
 |arr u _ _ B=>rw[V0,B,u.eq]
 |mp u _ _ B=>rw[V0,B,u.eq]
 |dp u _ _ _ B=>rw[V0,B,u.eq]
inductive DO (O:AS) (q:List (Nat×Nat)) (A:Nat->Nat):List (Nat×j2)->List (Nat×j2)->List Nat->Prop
 |nil:DO O q A [] [] []
 |box {i j:Nat} {T T0:aAg} {l l0 l':List Slot} {pb:Option Nat} {ds D:List (Nat×j2)} {K:List Nat}:RN q i j->aF O.d j=some (.box T0 l0 pb)->xh q l l'->DO O q A ds D K->dK j K=false->DO O q A ((i,.box T l (some (A i)))::ds) ((j,.box T l' pb)::D) (j::K)
 | Z0 {i j:Nat} {T:aAg} {l l':List Slot} {ds D:List (Nat×j2)} {K:List Nat}:RN q i j->xh q l l'->DO O q A ds D K->dK j K=false->DO O q A ((i,.box T l none)::ds) ((j,.box T l' none)::D) K
 |arr {α:Type} {i j:Nat} {T:aAg} {e:Fu α} {xs:List α} {ds D:List (Nat×j2)} {K:List Nat}:RN q i j->DO O q A ds D K->dK j K=false->DO O q A ((i,.arr T e xs)::ds) ((j,.arr T e xs)::D) K
 |mp {α β:Type} {i j:Nat} {e:Fu α} {f:Fu β} {m:List (α×β)} {ds D:List (Nat×j2)} {K:List Nat}:RN q i j->DO O q A ds D K->dK j K=false->DO O q A ((i,.mp e f m)::ds) ((j,.mp e f m)::D) K
 |dp {α:Type} {i j:Nat} {E:DE α} {x:α} {l l':List Nat} {ds D:List (Nat×j2)} {K:List Nat}:RN q i j->RNL q l l'->DO O q A ds D K->dK j K=false->DO O q A ((i,.dp E x l)::ds) ((j,.dp E x l')::D) K
theorem DO.out{O:AS}{q:List (Nat×Nat)}{A:Nat->Nat}{ds D:List (Nat×j2)}{K:List Nat}(h:DO O q A ds D K):G2 O (vJ q) A ds D K:=by
 induction h with
 |nil=>exact .nil
 |box u F E _ B C=>obtain rfl:=u.eq;obtain rfl:=E.eq;exact .box F C B
 | Z0 u E _ B C=>obtain rfl:=u.eq;obtain rfl:=E.eq;exact .Z0 C B
 |arr u _ B C=>obtain rfl:=u.eq;exact .arr C B
 |mp u _ B C=>obtain rfl:=u.eq;exact .mp C B
 |dp u E _ B C=>obtain rfl:=u.eq;obtain rfl:=E.eq;exact .dp C B
inductive AM (O:AS) (q:List (Nat×Nat)):List aAp->List Slot->Prop
 |nil:AM O q [] []
 |cons {x:aAp} {s s':Slot} {xs:List aAp} {l:List Slot}:SM q s s'->Arg O false x s'->AM O q xs l->AM O q (x::xs) (s::l)
theorem AM.am{O:AS}{q:List (Nat×Nat)}{xs:List aAp}{l:List Slot}(h:AM O q xs l):T4 O (vJ q) xs l:=by
 induction h with
 |nil=>exact .nil
 |cons u A _ B=>exact .cons (u.eq ▸ A) B
theorem CB{q:List (Nat×Nat)}{i j:Nat}(h:RN q i j:=by ((repeat (first | exact RN.hd rfl | (apply RN.tl;exact rfl)));fail_if_success focus skip)):RN q i j:=h
theorem sml{q:List (Nat×Nat)}{l l':List Slot}(h:xh q l l':=by ((repeat (first | exact xh.nil | apply xh.cons | exact SM.v | (apply SM.ref;exact CB) | (apply SM.ptr;exact CB) | apply SM.agg | apply SM.q9 | apply SM.G0 | exact SM.B8));fail_if_success focus skip)):xh q l l':=h
theorem smx{q:List (Nat×Nat)}{s s':Slot}(h:SM q s s':=by first
 |exact SM.v
 | (apply SM.ref;exact CB)
 | (apply SM.ptr;exact CB)
 | (apply SM.q9;exact sml)
 | (apply SM.agg;exact sml)
 | (apply SM.G0;exact sml)
 |exact SM.B8):SM q s s':=h
theorem rnl{q:List (Nat×Nat)}{l l':List Nat}(h:RNL q l l':=by ((repeat (first | exact RNL.nil | (apply RNL.cons;exact CB)));fail_if_success focus skip)):RNL q l l':=h
theorem dix{O:AS}{q:List (Nat×Nat)}{A:Nat->Nat}{ds:List (Nat×j2)}{H:List Nat}(h:DI O q A ds H:=by ((repeat (first | exact DI.nil | (apply DI.box;exact CB;exact rfl;exact sml) | (apply DI.arr;exact CB;exact rfl) | (apply DI.mp;exact CB;exact rfl) | (apply DI.dp;exact CB;exact rfl;exact rnl)));fail_if_success focus skip)):DI O q A ds H:=h
theorem dox{O:AS}{q:List (Nat×Nat)}{A:Nat->Nat}{ds D:List (Nat×j2)}{K:List Nat}(h:DO O q A ds D K:=by ((repeat (first | exact DO.nil | (apply DO.box;exact CB;exact rfl;exact sml) | (apply DO.Z0;exact CB;exact sml) | (apply DO.arr;exact CB) | (apply DO.mp;exact CB) | (apply DO.dp;exact CB;exact rnl) | exact rfl));fail_if_success focus skip)):DO O q A ds D K:=h
theorem amx{O:AS}{q:List (Nat×Nat)}{xs:List aAp}{l:List Slot}(h:AM O q xs l:=by ((repeat (first | exact AM.nil | (apply AM.cons;exact smx;exact arg)));fail_if_success focus skip)):AM O q xs l:=h
def aCd(g:List (Nat×Slot)):List aAp->List Slot->List (Nat×Nat)
 |x::xs,s::ss=>(match aV g x with | some u=>XV u s | none=>[])++aCd g xs ss
 |_,_=>[]
def idn(q:List (Nat×Nat)):List (Nat×j2)->List (Nat×Nat) | []=>[] | (k,_)::l=>bif (q.any λx=>Nat.beq x.1 k) then idn q l else (k,k)::idn q l
def aEs(d d':List (Nat×j2))(p:List (Nat×Nat)):List (Nat×Nat):=LI d d' p++idn (LI d d' p) d'
def frs(q:List (Nat×Nat))(t:Nat):List Nat->List (Nat×Nat) | []=>[] | k::L=>bif (q.any λx=>Nat.beq x.1 k) then frs q t L else (k,k+(t*1000+300))::frs q t L
inductive LbL:List (Nat×j2)->List Nat->Prop
 |nil:LbL [] []
 |cons {i:Nat} {e:j2} {l:List (Nat×j2)} {L:List Nat}:LbL l L->LbL ((i,e)::l) (i::L)
theorem lbl{l:List (Nat×j2)}{L:List Nat}(h:LbL l L:=by ((repeat (first | exact LbL.nil | apply LbL.cons));fail_if_success focus skip)):LbL l L:=h
def rmq(a:Nat):List (Nat×Nat)->List (Nat×Nat) | []=>[] | (b,c)::r=>bif Nat.beq b a then rmq a r else (b,c)::rmq a r
def ddq:List (Nat×Nat)->List (Nat×Nat) | []=>[] | (a,b)::r=>(a,b)::rmq a (ddq r)
structure KCM (C:List Nat) (F:w8) (o:aBa) (g:List (Nat×Slot)) (dd:List (Nat×j2)) {γ:Type} (e:Option γ) (s:γ->Slot) (d':γ->List (Nat×j2)):Prop where
 h:∀z,e=some z->JM F o ⟨g,dd⟩ ⟨gL o.dst (s z) g,d' z⟩
section
variable {g:List (Nat×Slot)}{X:AS->Prop}{m:Option β}{r:β}{d:Option Tmp}{t:Tmp}{op:Op}{e:Option γ}{k:γ->Option β}{s:γ->Slot}{d':γ->List (Nat×j2)}
theorem KCM.c{f:aA6}{ss:List Slot}{D0:(Nat->Nat)->List (Nat×j2)}{res:γ->Slot}{new:(Nat->Nat)->γ->List (Nat×j2)}{xs:List aAp}{ts:Array aAg}[i:F6 e F.P f ss D0 res new]{q0 q1 q2 q:List (Nat×Nat)}{H K L:List Nat}{D:γ->List (Nat×j2)}
  (h0:NL (aCd g xs ss) q0) (h1:NL (LI dd (D0 λ_=>0) q0) q1) (h2:NL (aEs dd (D0 λ_=>0) q1) q2) (hL:∀z,LbL (new (λ_=>0) z) L) (h3:NL (ddq (q2++frs q2 t L)) q) (br:okq q=true) (ha:AM ⟨g,dd⟩ q xs ss) (T7:∀A,DI ⟨g,dd⟩ q A (D0 A) H) (hs:∀z,SM q (res z) (s z)) (V8:∀z A,DO ⟨g,dd⟩ q A (new A z) (D z) K)
  (D9:∀z,xT g (gS dd H) H K (D z)=true) (kz:∀z,Ko ⟨g,dd⟩ H (D z)=true) (D6:∀z A,gH (res z) (new A z)=true) (xu:K.all (λk=>dK k H)=true) (J2:eR (some t) F.N=true) (hn:∀z,NL (D z++gS dd H) (d' z)):
  KCM C F ⟨some t,.call ⟨.value (.func f),xs.toArray,ts⟩,ty,p,af,gd⟩ g dd e s d':=⟨λz u=>by
 rw[<-(hn z).eq,<-(hs z).eq]
 exact vA (vJ q) (dO br) (λA=>i.E0 A u) i.call ha.am (λA=>(T7 A).C5) (λA=>(V8 z A).out) (λA=>(T7 A).H) (D9 z) (kz z) (D6 z) xu J2⟩
theorem WG(hg:GK ops g ⟨d,op,ty,p,af,gd⟩ true)(h:KCM C F ⟨d,op,ty,p,af,gd⟩ g dd e s d')(j:∀z (_:e=some z),GJ C F ops os ⟨gL d (s z) g,d' z⟩ X (k z) r True):GJ C F ops (⟨d,op,ty,p,af,gd⟩::os) ⟨g,dd⟩ X (e.bind k) r True:=⟨λ_ x=>by
 obtain⟨z,u,x⟩:=aC x;obtain⟨A,a,b⟩:=(j z u).go trivial x
 exact⟨A,Nu hg (h.h z u) a,b⟩⟩
theorem WH{R:∀z,e=some z->Prop}(hg:GK ops g ⟨d,op,ty,p,af,gd⟩ true)(h:KCM C F ⟨d,op,ty,p,af,gd⟩ g dd e s d')(j:∀z (h:e=some z),GJ C F ops os ⟨gL d (s z) g,d' z⟩ X (k z) r (R z h)):GJ C F ops (⟨d,op,ty,p,af,gd⟩::os) ⟨g,dd⟩ X (e.bind k) r (∀z h,R z h):=⟨λq x=>by
 obtain⟨z,u,x⟩:=aC x;obtain⟨A,a,b⟩:=(j z u).go (q z u) x
 exact⟨A,Nu hg (h.h z u) a,b⟩⟩
end
section
variable {g:List (Nat×Slot)}{o:aBa}{e:Option γ}{s:γ->Slot}{d':γ->List (Nat×j2)}
theorem kcm(h:KCM C F o g dd e s d':=by (apply KCM.c;exact nl;exact nl;exact nl;(intro _;exact lbl);exact nl;exact rfl;exact amx;(intro _;exact dix);(intro _;exact smx);(intro _ _;exact dox);(intro _;kernel_rfl);(intro _;kernel_rfl);(intro _ _;kernel_rfl);exact rfl;exact rfl;intro _;exact nl)):KCM C F o g dd e s d':=h
end
mutual
inductive FS (i:Nat) (w:Slot):Slot->Slot->Prop
 |hit {j:Nat}:Nat.beq j i=true->FS i w (.ref j) w
 |ref {j:Nat}:Nat.beq j i=false->FS i w (.ref j) (.ref j)
 |agg {l l':List Slot}:FSL i w l l'->FS i w (.agg l) (.agg l')
 |q9 {l l':List Slot}:FSL i w l l'->FS i w (.q9 l) (.q9 l')
 | G0 {g:Nat} {l l':List Slot}:FSL i w l l'->FS i w (.G0 g l) (.G0 g l')
 |bCg {j:Nat}:Nat.beq j i=true->FS i w (.ptr j 0) w
 |o {s:Slot}:FS i w s s
inductive FSL (i:Nat) (w:Slot):List Slot->List Slot->Prop
 |nil:FSL i w [] []
 |cons {s s':Slot} {l l':List Slot}:FS i w s s'->FSL i w l l'->FSL i w (s::l) (s'::l')
end
def drB(i:Nat):Slot->Bool | .el j _ _ _=>Nat.beq j i | .wi j _ _ _=>Nat.beq j i | .T9 j _ _ _ _=>Nat.beq j i | .esl j _ _ _=>Nat.beq j i | .sub j _ _=>Nat.beq j i | .q9 l=>dK i (bX l) | _=>false
inductive FSG (i:Nat) (w:Slot):List (Nat×Slot)->List (Nat×Slot)->Prop
 |nil:FSG i w [] []
 |dr {t:Nat} {s:Slot} {l l':List (Nat×Slot)}:drB i s=true->FSG i w l l'->FSG i w ((t,s)::l) l'
 |cons {t:Nat} {s s':Slot} {l l':List (Nat×Slot)}:FS i w s s'->FSG i w l l'->FSG i w ((t,s)::l) ((t,s')::l')
inductive yb (i:Nat) (w:Slot):List (Nat×j2)->List (Nat×j2)->Prop
 |nil:yb i w [] []
 |hit {j:Nat} {e:j2} {l l':List (Nat×j2)}:Nat.beq j i=true->yb i w l l'->yb i w ((j,e)::l) l'
 |box {j:Nat} {T:aAg} {x x':List Slot} {pb:Option Nat} {l l':List (Nat×j2)}:FSL i w x x'->yb i w l l'->yb i w ((j,.box T x pb)::l) ((j,.box T x' pb)::l')
 |o {j:Nat} {e:j2} {l l':List (Nat×j2)}:yb i w l l'->yb i w ((j,e)::l) ((j,e)::l')
def fzA:List Slot->Option Nat | []=>none | .ref i::_=>some i | _::l=>fzA l
def fzL(g:List (Nat×Slot)):List aAp->Option Nat
 | []=>none
 |x::xs=>match aV g x with | some (.ref i)=>some i | some (.agg l)=>(match fzA l with | some i=>some i | none=>fzL g xs) | _=>fzL g xs
def fzX(g:List (Nat×Slot)):Op->Option Nat | .call ⟨.value _,xs,_⟩=>fzL g xs.toList | .build _ ps=>fzL g (ps.toList.map (·.2)) | .buildSlice _ _ ps=>fzL g (ps.toList.map (·.2)) | _=>none
theorem fsl{i:Nat}{w:Slot}{l l':List Slot}(h:FSL i w l l':=by ((repeat (first | exact FSL.nil | apply FSL.cons | exact FS.hit rfl | exact FS.ref rfl | apply FS.agg | apply FS.q9 | apply FS.G0 | exact FS.bCg rfl | exact FS.o));fail_if_success focus skip)):FSL i w l l':=h
theorem fsg{i:Nat}{w:Slot}{l l':List (Nat×Slot)}(h:FSG i w l l':=by ((repeat (first | exact FSG.nil | (apply FSG.dr;exact rfl) | apply FSG.cons | exact FSL.nil | apply FSL.cons | exact FS.hit rfl | exact FS.ref rfl | apply FS.agg | apply FS.q9 | apply FS.G0 | exact FS.bCg rfl | exact FS.o));fail_if_success focus skip)):FSG i w l l':=h
theorem fsd{i:Nat}{w:Slot}{l l':List (Nat×j2)}(h:yb i w l l':=by ((repeat (first | exact yb.nil | (apply yb.hit;exact rfl) | (apply yb.box;exact fsl) | apply yb.o));fail_if_success focus skip)):yb i w l l':=h
section
variable {g g':List (Nat×Slot)}{X:AS->Prop}{m:Option β}{r:β}{R:Prop}{o:aBa}{i:Nat}{T:aAg}{e:Fu α}{xs:List α}
theorem WI(hi:fzX g o.op=some i)(he:aF dd i=some (.arr T e xs)){g1:List (Nat×Slot)}(h1:GD [] g g1)(hg:FSG i (.v (Fu.sl e) xs) g1 g'){d1:List (Nat×j2)}(hd:yb i (.v (Fu.sl e) xs) dd d1)(hn:NL (QD d1) d')(hs:Sub F ⟨g,dd⟩ ⟨g',d'⟩)(k:GJ C F ops (o::os) ⟨g',d'⟩ X m r R):GJ C F ops (o::os) ⟨g,dd⟩ X m r R:=⟨λq e=>by
 obtain⟨u,a,b⟩:=k.go q e;grind [J.sub]⟩
end
section
variable {fn:Func}{v0 v1 v2:ResultVar}{s1 s2:Slot}{y0 y1 y2:Nat×Slot}{e0 e1 e2:List (Nat×j2)}{m:Option β}{r a:β}
theorem aCf(hF:bp F F')(N3:fn.results= #[])(hs:Sub F' O ⟨[],new⟩)(hn:K5 new new):XQ F' O (rN F fn (.q9 []) new) .ret:=kO hs (Kn hF N3 hn)
theorem aCg(hF:bp F F')(N3:fn.results= #[v0])(h0:T1 F.P v0 s0 90 y0 e0)(hs:Sub F' O ⟨[y0],e0++new⟩)(r0:RV F ⟨[y0],e0++new⟩ v0 s0)(hn:K5 new (e0++new)):XQ F' O (rN F fn s0 new) .ret:=kO hs (jX hF N3 r0 hn)
theorem aCh(hF:bp F F')(N3:fn.results= #[v0,v1])(h0:T1 F.P v0 s0 90 y0 e0)(h1:T1 F.P v1 s1 91 y1 e1)(hs:Sub F' O ⟨[y0,y1],e0++(e1++new)⟩)(r0:RV F ⟨[y0,y1],e0++(e1++new)⟩ v0 s0)(r1:RV F ⟨[y0,y1],e0++(e1++new)⟩ v1 s1)(hn:K5 new (e0++(e1++new))):XQ F' O (rN F fn (.q9 [s0,s1]) new) .ret:=kO hs (eC hF N3 r0 r1 hn)
theorem aCi(hF:bp F F')(N3:fn.results= #[v0,v1,v2])(h0:T1 F.P v0 s0 90 y0 e0)(h1:T1 F.P v1 s1 91 y1 e1)(h2:T1 F.P v2 s2 92 y2 e2)(hs:Sub F' O ⟨[y0,y1,y2],e0++(e1++(e2++new))⟩)(r0:RV F ⟨[y0,y1,y2],e0++(e1++(e2++new))⟩ v0 s0)(r1:RV F ⟨[y0,y1,y2],e0++(e1++(e2++new))⟩ v1 s1)(r2:RV F ⟨[y0,y1,y2],e0++(e1++(e2++new))⟩ v2 s2)(hn:K5 new (e0++(e1++(e2++new)))):XQ F' O (rN F fn (.q9 [s0,s1,s2]) new) .ret:=kO hs (JK hF N3 r0 r1 r2 hn)
theorem XW(hF:bp F F')(N3:fn.results= #[])(hs:Sub F' O ⟨[],new⟩)(hn:K5 new new):XQ F' O (rN F fn (.q9 []) new) .normal:=kO hs (Ok hF N3 hn)
theorem SB{F0:w8}{e:aBd}{s:Slot}(h:r=a->XQ F O (Ad F0 fn s new) e):GX C F O (Ad F0 fn s new) e (some a) r True:=⟨λ_ x=>h (X6 x).symm⟩
theorem SC{F0:w8}{e:aBd}{s:Slot}(h:r=a->XQ F O (rN F0 fn s new) e):GX C F O (rN F0 fn s new) e (some a) r True:=⟨λ_ x=>h (X6 x).symm⟩
theorem SD{s:Slot}{R:Prop}(h:GX C F' O (rN F fn s new) .normal m r R):GW C F' [] O (rN F fn s new) m r R:=⟨λq e=>VR (h.go q e)⟩
theorem xqm{e:aBd}{s:Slot}(h:XQ F' O (rN F fn s new) e:=by first
 | (apply aCg;assumption;exact rfl;exact t1;exact sb;exact rv;exact QE)
 | (apply aCh;assumption;exact rfl;exact t1;exact t1;exact sb;exact rv;exact rv;exact QE)
 | (apply aCi;assumption;exact rfl;exact t1;exact t1;exact t1;exact sb;exact rv;exact rv;exact rv;exact QE)
 | (apply aCf;assumption;exact rfl;exact sb;exact QE)
 | (apply XW;assumption;exact rfl;exact sb;exact QE)):XQ F' O (rN F fn s new) e:=h
end
class MX (P:aA5):Prop where
 h:P.follows .mixedOrders=true
def XX:aBa->Nat |⟨some t,.assign (.const _),_,_,_,_⟩=>t+29000 |⟨some t,.assign (.tmp x),_,_,_,_⟩=>t+9000+100000*(x+1) |⟨some t,_,_,_,_,_⟩=>t+9000 |⟨none,.store _ (.tmp x) (.const _),_,_,_,_⟩=>x+39000 |⟨none,.store _ (.tmp x) _,_,_,_,_⟩=>x+19000 | _=>0
section
variable {σ0 σ2:AS}{g:List (Nat×Slot)}{d2:List (Nat×j2)}{X:AS->Prop}{m:Option β}{r:β}{R:Prop}{d:Option Tmp}{t:Tmp}{op:Op}{cs:List aBb}{o:aBa}{acc:List E4}{it:E4}{T:aAg}{i:Nat}{e:Fu α}{xs:List α}{g':List (Nat×Slot)}
theorem GJ.st(h:dK (XX o) C=true)(k:GJ C F ops (o::os) O X m r R):GJ C F ops (o::os) O X m r R:=k
theorem WJ(h:dK (XX o+7000000) C=true)(br:xG ops (List.reverseAux acc []).length (Ga ops)=true)(zq:Tw (List.reverseAux acc []) (Ga ops)=true)(yo:Tx σ0 (List.reverseAux acc []) (Ga ops)=true)(k:GJ C F ops (o::os) O X m r R):GP C F ops σ0 acc (o::os) O X m r R:=Li br zq yo k
theorem WK(h:dK (XX o) C=true)(k:GP C F ops σ0 acc (o::os) O X m r R):GP C F ops σ0 acc (o::os) O X m r R:=k
theorem WL{id:Nat}{b:Bool}(h:dK (id+500000) C=true)(k:GW C F (.region id ops b::cs) O Q m r R):GW C F (.region id ops b::cs) O Q m r R:=k
theorem WM{id:Nat}{c:aBb}(h:dK (id+8000000) C=true)(k:GW C F (.block id c::cs) O Q m r R):GW C F (.block id c::cs) O Q m r R:=k
theorem Us{id:Nat}{l:List aBa}[i:MX F.P](h:GP C F l.toArray O [] l O (λs=>W F cs s Q) m r R)(V9:xS l.toArray=true:=by decide+kernel)(hms:Rd l.toArray (Ga l.toArray)=true:=by decide+kernel):GW C F (.region id l.toArray true::cs) O Q m r R:=GW.dr i.h V9 hms h
theorem GP.z:GP C F ops σ0 acc os O X m r (GP C F ops σ0 acc os O X m r True):=⟨λh e=>h.go trivial e⟩
theorem GJ.ox{s':Slot}{Y3:List (Nat×j2)}(h:JO F ⟨some t,op,ty,p,af,gd⟩ ⟨g,dd⟩ s new)(k:GJ C F ops os ⟨(t,s')::g,d'⟩ X m r R)(hs:SN s s':=by exact sn)(he:sy new Y3:=by exact enl)(f:AS.free ⟨g,dd⟩ Y3=true:=by exact rfl)(hd:Nat.blt t F.N=true:=by exact rfl)(hn:NL (Y3++dd) d':=by exact nl)(hg:GK ops g ⟨some t,op,ty,p,af,gd⟩ true:=by exact Rn):GJ C F ops (⟨some t,op,ty,p,af,gd⟩::os) ⟨g,dd⟩ X m r R:=by rw[hs.eq,he.eq] at h;exact KZ hg ⟨h,f,hn.eq.symm⟩ hd k
theorem GJ.mx{g2:List (Nat×Slot)}(h:JM F ⟨d,op,ty,p,af,gd⟩ O ⟨g',dd⟩)(k:GJ C F ops os ⟨g2,d'⟩ X m r R)(hn:sy dd d':=by exact enl)(hg:NL g' g2:=by exact nl)(hk:GK ops O.g ⟨d,op,ty,p,af,gd⟩ true:=by exact Rn):GJ C F ops (⟨d,op,ty,p,af,gd⟩::os) O X m r R:=LA hk ⟨by rw[<-hn.eq,<-hg.eq];grind⟩ k
theorem GP.ox(h:JO F ⟨some t,op,ty,p,af,gd⟩ ⟨g,dd⟩ s new)(k:GP C F ops σ0 (⟨s,new,new,Bv g ⟨some t,op,ty,p,af,gd⟩,[]⟩::acc) os ⟨(t,s)::g,d'⟩ X m r R)(f:AS.free ⟨g,dd⟩ new=true:=by exact rfl)(hd:Nat.blt t F.N=true:=by exact rfl)(hn:NL (new++dd) d':=by exact nl)(hg:GK ops g ⟨some t,op,ty,p,af,gd⟩ true:=by exact Rn):GP C F ops σ0 acc (⟨some t,op,ty,p,af,gd⟩::os) ⟨g,dd⟩ X m r R:=rD (WA hg ⟨h,f,hn.eq.symm⟩ hd) k
theorem GJ.oc{v:Option γ}{u:Option β}{k:γ->Option β}(h1:v=none->GJ C F ops os O X u r True)(h2:∀z,v=some z->GJ C F ops os O X (k z) r True):GJ C F ops os O X (lJ v u k) r True:=⟨λ_ e=>by
 cases hv:v with
 |none=>exact(h1 hv).go trivial (Rk hv e)
 |some z=>exact(h2 z hv).go trivial (Rl hv e)⟩
theorem GP.oc{v:Option γ}{u:Option β}{k:γ->Option β}(h1:v=none->GP C F ops σ0 acc os O X u r True)(h2:∀z,v=some z->GP C F ops σ0 acc os O X (k z) r True):GP C F ops σ0 acc os O X (lJ v u k) r True:=⟨λ_ e=>by
 cases hv:v with
 |none=>exact(h1 hv).go trivial (Rk hv e)
 |some z=>exact(h2 z hv).go trivial (Rl hv e)⟩
theorem WN(k:GJ C F ops os O X m r R)(br:xG ops (List.reverseAux acc []).length (Ga ops)=true:=by kernel_rfl)(zq:Tw (List.reverseAux acc []) (Ga ops)=true:=by kernel_rfl)(yo:Tx σ0 (List.reverseAux acc []) (Ga ops)=true:=by kernel_rfl):GP C F ops σ0 acc os O X m r R:=Li br zq yo k
theorem GW.sub(h:Sub F O σ2)(k:GW C F cs σ2 Q m r R):GW C F cs O Q m r R:=⟨λq e=>vI h (k.go q e)⟩
theorem GJ.sub(h:Sub F O σ2)(k:GJ C F ops os σ2 X m r R):GJ C F ops os O X m r R:=⟨λq e=>by obtain⟨u,a,b⟩:=k.go q e;grind [J.sub]⟩
theorem GJ.fl(i:Nat)(k:GJ C F ops os ⟨g',d'⟩ X m r R)(he:aF dd i=some (.arr T e xs):=by exact rfl){g1:List (Nat×Slot)}(h1:GD [] g g1:=by exact LG)(hg:FSG i (.v (Fu.sl e) xs) g1 g':=by exact fsg)(hd:yb i (.v (Fu.sl e) xs) dd d2:=by exact fsd)(hn:NL (QD d2) d':=by exact nl)(hs:Sub F ⟨g,dd⟩ ⟨g',d'⟩:=by exact sb):GJ C F ops os ⟨g,dd⟩ X m r R:=GJ.sub hs k
theorem GJ.fb(i:Nat){l:List Slot}{pb:Option Nat}{u:α}{m':Nat}(k:GJ C F ops os ⟨g',d'⟩ X m r R)(he:aF dd i=some (.box T l pb):=by exact rfl)(hl:ug m' l e u:=by exact LH){g1:List (Nat×Slot)}(h1:GD [] g g1:=by exact LG)(hg:FSG i (.B8 e u) g1 g':=by exact fsg)(hd:yb i (.B8 e u) dd d2:=by exact fsd)(hn:NL (QD d2) d':=by exact nl)(hs:Sub F ⟨g,dd⟩ ⟨g',d'⟩:=by exact sb):GJ C F ops os ⟨g,dd⟩ X m r R:=GJ.sub hs k
theorem GW.fb(i:Nat){l:List Slot}{pb:Option Nat}{u:α}{m':Nat}(k:GW C F cs ⟨g',d'⟩ Q m r R)(he:aF dd i=some (.box T l pb):=by exact rfl)(hl:ug m' l e u:=by exact LH){g1:List (Nat×Slot)}(h1:GD [] g g1:=by exact LG)(hg:FSG i (.B8 e u) g1 g':=by exact fsg)(hd:yb i (.B8 e u) dd d2:=by exact fsd)(hn:NL (QD d2) d':=by exact nl)(hs:Sub F ⟨g,dd⟩ ⟨g',d'⟩:=by exact sb):GW C F cs ⟨g,dd⟩ Q m r R:=GW.sub hs k
theorem GW.fl(i:Nat)(k:GW C F cs ⟨g',d'⟩ Q m r R)(he:aF dd i=some (.arr T e xs):=by exact rfl){g1:List (Nat×Slot)}(h1:GD [] g g1:=by exact LG)(hg:FSG i (.v (Fu.sl e) xs) g1 g':=by exact fsg)(hd:yb i (.v (Fu.sl e) xs) dd d2:=by exact fsd)(hn:NL (QD d2) d':=by exact nl)(hs:Sub F ⟨g,dd⟩ ⟨g',d'⟩:=by exact sb):GW C F cs ⟨g,dd⟩ Q m r R:=GW.sub hs k
theorem WO{c:aBb}(h:W F cs σ2 Q->W F (c::cs) O Q)(k:GW C F cs σ2 Q m r R):GW C F (c::cs) O Q m r R:=⟨λq e=>h (k.go q e)⟩
theorem GW.pin{l:List Slot}(i:Nat)(he:aF O.d i=some (.box T l none))(h:∀c,GW C F cs ⟨O.g,(i,.box T l (some c))::O.d⟩ Q m r True):GW C F cs O Q m r True:=⟨λq e=>BS he λc=>(h c).go trivial e⟩
end
class ZR (P:aA5) (T:aAg) {α:outParam Type} (e:outParam (Fu α)) (v:outParam α):Prop where
 h:∃k E ti tE cs,(∀w,(typeInfo T).run P w= .ok ti w)/\(∀w,(underlying T).run P w= .ok (.array k E) w)/\(∀w,(typeInfo E).run P w= .ok tE w)/\ti.zero=some (.agg (List.toArray cs))/\e.agg=true/\∀S w,e.ok v S w cs
class ZV (P:aA5) (T:aAg) (z:outParam aA4):Prop where
 h:∀w,(zeroValue T).run P w= .ok z w
class ZE (P:aA5) (T:aAg) {α:outParam Type} (e:outParam (Fu α)) (z:outParam α):Prop where
 h:∃ti zv,(∀w,(typeInfo T).run P w= .ok ti w)/\(∀w,(sizeOf T).run P w= .ok e.n w)/\ti.zero=some zv/\Nat.ble ti.bytes 4096=true/\∀S w,e.ok z S w zv.cells.toList
class MT (T:aAg) (γ δ:outParam Type) (k:outParam (Fu γ)) (f:outParam (Fu δ)):Prop
class EQ (P:aA5) (T:aAg) {α:outParam Type} (n:outParam Nat) (e:outParam (Fu α)):Prop where
 h:oz n P T e
 g:P.eqGuardType P.depth T=false
section
variable {g:List (Nat×Slot)}{d:Option Tmp}{t:Tmp}{x y z c:aAp}{e:Fu α}{n:Nat}{b:Bool}{u:aA9}{i off:Nat}{T E U':aAg}{l l' l2:List Slot}{o:aBa}
theorem aCj[TT F.P T u n b]{v:α}(hx:aV g x=some (.v e v))(hl:zg (nf u) l e v)(N4:(bX l).all (λj=> !Nat.beq j t)=true)(f:AS.free ⟨g,dd⟩ [(t,.box T l)]=true):KO C F ⟨some t,.box T x,ty,p,af,gd⟩ ⟨g,dd⟩ (.ptr t 0) [(t,.box T l)] ((t,.box T l)::dd):= .o1 (Ge t hx hl.vz N4) f
theorem XY[TT F.P U u n b]{v:α}(hx:aV O.g x=some (.ptr i 0))(he:aF O.d i=some (.box T l pb))(hl:ug (nf u) l e v)(ha:e.agg=b)(hs:e.n=n):JO F ⟨d,.load U x,ty,p,af,gd⟩ O (.v e v) []:=uE hx he hl.vz (Ek ha) (lK hs)
theorem aCk[TT F.P U u n b]{v:α}(hx:aV O.g x=some (.ptr i 0))(he:aF O.d i=some (.box T l pb))(hy:aV O.g y=some (.v e v))(hl:Nat.beq (l.map Slot.sz).sum e.n=true)(hs:e.n=n)(U1:zg (nf u) l' e v):JM F ⟨none,.store U x y,ty,p,af,gd⟩ O ⟨O.g,(i,.box T l' pb)::O.d⟩:=iT hx he hl hy U1.vz (lK hs)
theorem aCl{ops:Array aBa}[TT F.P U u n b]{v:α}(hx:aV g x=some (.ptr i 0))(he:aF dd i=some (.box T l pb))(hy:aV g y=some (.v e v))(hl:Nat.beq (l.map Slot.sz).sum e.n=true)(hs:e.n=n)(U1:zg (nf u) l' e v):KP C F ops ⟨none,.store U x y,ty,p,af,none⟩ ⟨g,dd⟩ ⟨g,(i,.box T l' pb)::dd⟩ ⟨.top,[(i,.box T l' pb)],[],Bv g ⟨none,.store U x y,ty,p,af,none⟩,[]⟩:= .sA hx he hl hy U1.vz (lK hs)
theorem KM.sA[TT F.P U u n b]{v:α}(hx:aV g x=some (.ptr i 0))(he:aF dd i=some (.box T l pb))(hy:aV g y=some (.v e v))(hl:Nat.beq (l.map Slot.sz).sum e.n=true)(hs:e.n=n)(U1:zg (nf u) l' e v):KM C F ⟨none,.store U x y,ty,p,af,gd⟩ ⟨g,dd⟩ ⟨g,(i,.box T l' pb)::dd⟩:=⟨aCk hx he hy hl hs U1⟩
theorem KM.sG(hx:aV g x=some (.ptr i 0))(he:aF dd i=some (.box T l pb))(hl:(l.map Slot.sz).sum=n)(hy:aV g y=some (.agg l'))(U1:(l'.map Slot.sz).sum=n)(hnt:l'.all Slot.plain=true)(hS:∀w,(sizeOf U).run F.P w= .ok n w):KM C F ⟨none,.store U x y,ty,p,af,gd⟩ ⟨g,dd⟩ ⟨g,(i,.box T l' pb)::dd⟩:=⟨Aq hx he hl hy U1 hnt hS⟩
theorem WQ{pl:List (Nat×Nat)}{ps:List (Nat×aAp)}[h:BD F.P T pl l](hp:H6 O pl.toArray l ps l')(hn:NL l' l2):JO F ⟨d,.build T ps.toArray,ty,p,af,gd⟩ O (.agg l2) []:=by
 rw[<-hn.eq];obtain⟨u,A,B⟩:=h.h;grind [dP]
theorem XZ{pl:List (Nat×Nat)}{ps:List (Nat×aAp)}{v:α}[h:BD F.P T pl l][TT F.P T u n b](hC:dK (t+1000) C=true)(hp:H6 ⟨g,dd⟩ pl.toArray l ps l')(hn:NL l' l2)(hs:ug (nf u) l2 e v)(ha:e.agg=true):KO C F ⟨some t,.build T ps.toArray,ty,p,af,gd⟩ ⟨g,dd⟩ (.v e v) [] dd:= .of (QY (WQ hp hn) hs.vz ha)
theorem aCm{v:α}[h:ZR F.P T e v]:JO F ⟨d,.build T #[],ty,p,af,gd⟩ O (.v e v) []:=by
 obtain⟨k,E,I,K,cs,u,A,B,C,D,G⟩:=h.h;exact yY u A B C D G
theorem aCn[TT F.P U u n b]{os:List Nat}[SF F.P U os]{m k:Nat}{v:α}{e':Fu β}{v':β}(hx:aV O.g x=some (.B8 e v))(hp:PjK m (nf u) e v k e' v')(ho:os[m]? =some k):JO F ⟨d,.fieldAddr U x m,ty,p,af,gd⟩ O (.B8 e' v') []:=by
 obtain⟨E,f,A,B,rfl,k,C,D⟩:=SF.at (P:=F.P) (T:=U) ho;exact Tm hx A B C D hp.prj rfl
theorem aCo{zs:List α}{z0:aA4}{ps:List (Nat×aAp)}{len:Nat}[EN U E α e][hz:ZV F.P E z0](hU:∀w,(underlying U).run F.P w= .ok (.slice E) w)(hS:∀w,(sizeOf E).run F.P w= .ok e.n w)(he:N0 O e 0 ps zs)(hle:Nat.ble (len*e.n) 16777216=true)(hl:ps.length=len)(U1:zs.length=len)(hb:Nat.ble len 16777216=true):JO F ⟨d,.buildSlice U len ps.toArray,ty,p,af,gd⟩ O (.v (Fu.sl e) zs) []:=rZ hU hS hz.h hle hl U1 hb he
theorem YA{zs:List α}{z0:aA4}{ps:List (Nat×aAp)}{len:Nat}[EN U E α e][hz:ZV F.P E z0](hC:dK t C=true)(hU:∀w,(underlying U).run F.P w= .ok (.slice E) w)(hS:∀w,(sizeOf E).run F.P w= .ok e.n w)(he:N0 ⟨g,dd⟩ e 0 ps zs)(hle:Nat.ble (len*e.n) 16777216=true)(hl:ps.length=len)(U1:zs.length=len)(hb:Nat.ble len 16777216=true)(f:AS.free ⟨g,dd⟩ [(t,.arr E e zs)]=true):KO C F ⟨some t,.buildSlice U len ps.toArray,ty,p,af,gd⟩ ⟨g,dd⟩ (.ref t) [(t,.arr E e zs)] ((t,.arr E e zs)::dd):= .o1 (BF t hU hS hz.h hle hl U1 hb he) f
theorem YB{v:α}{zs:List α}{k k':aA7}{m:Int}[EN U E α e][h:ZE F.P E e v](hx:aV O.g x=some (.v (Fu.int k) m))(hy:aV O.g y=some (.v (Fu.int k') m))(hU:∀w,(underlying U).run F.P w= .ok (.slice E) w)(hm:Sw.mk m v=some zs):JO F ⟨d,.makeSlice U x y,ty,p,af,gd⟩ O (.v (Fu.sl e) zs) []:=by
 obtain⟨G,I,u,A,B,C,D⟩:=h.h;exact aBl hm hx hy hU u A B C D
theorem KO.mkR{v:α}{zs:List α}{k k':aA7}{m:Int}[EN U E α e][h:ZE F.P E e v](hC:dK t C=true)(hx:aV g x=some (.v (Fu.int k) m))(hy:aV g y=some (.v (Fu.int k') m))(hU:∀w,(underlying U).run F.P w= .ok (.slice E) w)(hm:Sw.mk m v=some zs)(f:AS.free ⟨g,dd⟩ [(t,.arr E e zs)]=true):KO C F ⟨some t,.makeSlice U x y,ty,p,af,gd⟩ ⟨g,dd⟩ (.ref t) [(t,.arr E e zs)] ((t,.arr E e zs)::dd):=by
 obtain⟨I,K,u,A,B,D,G⟩:=h.h;exact .o1 (JC t hm hx hy hU u A B D G) f
theorem YC[DecidableEq α][h:EQ F.P T n e]{v w:α}(hn:Nat.ble n 10000=true)(ha:e.agg=true)(hx:aV O.g x=some (.v e v))(hy:aV O.g y=some (.v e w)):JO F ⟨d,.binOp .eql T x y U,ty,p,af,gd⟩ O (.v Fu.bool (decide (v=w))) []:=XK h.h hn ha h.g hx hy
theorem YD[DecidableEq α][h:EQ F.P T n e]{v w:α}(hn:Nat.ble n 10000=true)(ha:e.agg=true)(hx:aV O.g x=some (.v e v))(hy:aV O.g y=some (.v e w)):JO F ⟨d,.binOp .neq T x y U,ty,p,af,gd⟩ O (.v Fu.bool (!decide (v=w))) []:=JD h.h hn ha h.g hx hy
theorem KO.map{γ δ:Type}{k:Fu γ}{f:Fu δ}[MT T γ δ k f](h:AS.free ⟨g,dd⟩ [(t,.mp k f [])]=true):KO C F ⟨some t,.makeMap T none,ty,p,af,gd⟩ ⟨g,dd⟩ (.ref t) [(t,.mp k f [])] ((t,.mp k f [])::dd):= .o1 (Xy t k f) h
theorem YE{v:α}(hC:dK (t+2000) C=true)(hx:aV g x=some (.B8 e v)):KO C F ⟨some t,.assign x,ty,p,af,gd⟩ ⟨g,dd⟩ (.v (Fu.we e) (some v)) [] dd:= .of (Rh (dJ hx))
theorem YF[TT F.P U u n b]{zs:List α}{a:Int}{w:α}{k:Nat}(hx:aV O.g x=some (.el i k e.n 0))(he:aF O.d i=some (.arr T e zs))(hk:k=a.toNat)(hz:Sw.idx zs a=some w)(ha:e.agg=b)(hs:e.n=n):JO F ⟨d,.load U x,ty,p,af,gd⟩ O (.v e w) []:=Gj (hk ▸ (iX hz).2.2) hx he .here (Ek ha) (lK hs)
theorem or2{α:Type}{a b c:α}(h:a=b\/a=c:=by first | exact .inl rfl | exact .inr rfl):a=b\/a=c:=h
theorem jB{bo:BinOp}(k:JO F ⟨d,.binOp bo T x y U,ty,p,af,gd⟩ O s []:=by first
 | ((with_reducible apply Kd);exact rfl;exact rfl;exact rfl)
 | ((with_reducible apply lI);exact rfl;exact rfl;exact rfl)
 | ((with_reducible apply Tl);exact eW rfl;exact rfl)
 | ((with_reducible apply Am);exact or2;rotate_left;exact rfl;exact rfl;first | exact aHw rfl | (apply QU;assumption))
 | ((with_reducible apply Gd);exact or2;rotate_left;exact rfl;exact rfl;first | exact aHw rfl | (apply QT;assumption))
 | ((with_reducible apply Dt);exact eW rfl;exact rfl)
 | ((with_reducible apply EU);exact rfl;exact eW rfl)
 | ((with_reducible apply FG);exact rfl;exact eW rfl)
 | ((with_reducible apply RI);exact rfl;exact eW rfl)
 | ((with_reducible apply RJ);exact rfl;exact eW rfl)
 | ((with_reducible apply FC);exact rfl;exact eW rfl)
 | ((with_reducible apply EA);exact eW rfl;rotate_left;rotate_left;rotate_left;exact rfl;exact rfl;rotate_left;exact eW rfl;exact TI.h;exact rfl)
 | ((with_reducible apply EB);exact eW rfl;rotate_left;rotate_left;rotate_left;exact rfl;exact rfl;rotate_left;exact eW rfl;exact TI.h;exact rfl)
 | ((with_reducible apply YC);exact rfl;exact rfl;exact rfl;exact rfl)
 | ((with_reducible apply YD);exact rfl;exact rfl;exact rfl;exact rfl)
 | ((with_reducible apply EC);exact eW rfl;exact rfl;exact rfl)
 | ((with_reducible apply ED);exact eW rfl;exact rfl;exact rfl)
 | ((with_reducible apply Eh);exact rfl;exact rfl)
 | ((with_reducible apply KU);exact rfl;exact rfl)
 | ((with_reducible apply eV);rotate_left;exact rfl;exact rfl;rotate_left;assumption)):JO F ⟨d,.binOp bo T x y U,ty,p,af,gd⟩ O s []:=k
theorem jC{bi:Builtin}{xs:Array aAp}{ts:Array aAg}(k:JO F ⟨d,.call ⟨.builtin bi,xs,ts⟩,ty,p,af,gd⟩ O s []:=by first
 | ((with_reducible apply vG);exact rfl;exact eW rfl)
 | ((with_reducible apply BA);exact rfl;exact rfl;exact eW rfl)
 | ((with_reducible apply Gh);exact rfl;exact eW rfl)
 | ((with_reducible apply Qy);exact rfl;exact rfl)
 | ((with_reducible apply Bs);exact rfl;exact rfl)):JO F ⟨d,.call ⟨.builtin bi,xs,ts⟩,ty,p,af,gd⟩ O s []:=k
theorem jS{lo hi mx:Option aAp}(k:JO F ⟨d,.slice U x lo hi mx,ty,p,af,gd⟩ O s []:=by first
 | ((with_reducible apply Ea);rotate_left;exact rfl;exact rfl;exact eW rfl;exact lK rfl;rotate_left;assumption)
 | ((with_reducible apply Qx);rotate_left;exact rfl;exact rfl;exact eW rfl;exact lK rfl;rotate_left;assumption)
 | ((with_reducible apply EK);rotate_left;exact rfl;exact rfl;exact rfl;exact eW rfl;exact lK rfl;rotate_left;assumption)
 | ((with_reducible apply JJ);exact rfl;exact rfl;exact eW rfl;exact lK rfl)
 | ((with_reducible apply FN);rotate_left;exact rfl;exact rfl;exact rfl;exact eW rfl;rotate_left;assumption)
 | ((with_reducible apply KV);rotate_left;exact rfl;exact rfl;exact eW rfl;rotate_left;assumption)
 | ((with_reducible apply Ot);rotate_left;exact rfl;exact rfl;exact rfl;exact eW rfl;exact lK rfl;rotate_left;assumption)
 | ((with_reducible apply ES);exact rfl;exact rfl;exact rfl;exact eW rfl;exact lK rfl)):JO F ⟨d,.slice U x lo hi mx,ty,p,af,gd⟩ O s []:=k
theorem jI(k:JO F ⟨d,.indexAddr U x y,ty,p,af,gd⟩ O s []:=by first
 | ((with_reducible apply Gg);rotate_left;exact rfl;exact rfl;exact eW rfl;exact lK rfl;rotate_left;assumption)
 | ((with_reducible apply BC);rotate_left;exact rfl;exact rfl;exact rfl;exact eW rfl;exact lK rfl;rotate_left;assumption)
 | ((with_reducible apply EJ);rotate_left;exact rfl;exact rfl;exact eW rfl;exact lK rfl;rotate_left;assumption)
 | ((with_reducible apply Nz);rotate_left;exact rfl;exact rfl;exact rfl;exact rfl;exact eW rfl;exact lK rfl;rotate_left;assumption)):JO F ⟨d,.indexAddr U x y,ty,p,af,gd⟩ O s []:=k
theorem jo2(k:JO F o O s []:=by first
 | ((with_reducible apply aZ);exact rfl)
 | ((with_reducible apply VZ);exact rfl;exact rfl)
 | ((with_reducible apply dJ);exact rfl)
 | ((with_reducible apply gK);exact rfl;exact rfl;exact rfl;exact Ek rfl;exact lK rfl)
 | ((with_reducible apply iO);exact rfl)
 | ((with_reducible apply iB);exact rfl;exact rfl)
 |exact jB
 |exact jC
 |exact jI
 |exact jS
 | ((with_reducible apply VU);rotate_left;exact rfl;exact rfl;first | assumption | exact rfl)
 | ((with_reducible apply JG);rotate_left;exact rfl;exact rfl;first | assumption | exact rfl)
 | ((with_reducible apply rY);exact rfl;exact Ek rfl;exact lK rfl)
 | ((with_reducible apply WQ);exact parts;exact nl)
 | ((with_reducible apply aCm))
 | ((with_reducible apply XY);exact rfl;exact rfl;exact LH;exact rfl;exact rfl)
 | ((with_reducible apply Ke);exact rfl;exact rfl;exact rfl;exact Ek rfl;exact lK rfl)
 | ((with_reducible apply aCo);exact eW rfl;exact lK rfl;exact LL;exact rfl;exact rfl;exact rfl;exact rfl)
 | ((with_reducible apply Ti);exact eW rfl;exact rfl)
 | ((with_reducible apply Qp);exact rfl)
 | ((with_reducible apply wD);exact eW rfl;exact eW rfl;exact rfl;exact rfl)
 | ((with_reducible apply Qq);exact eW rfl;exact eW rfl;exact rfl)
 | ((with_reducible apply aCn);exact rfl;exact pjk;exact rfl)
 | ((with_reducible apply FM);rotate_left;exact rfl;exact rfl;exact eW rfl;rotate_left;assumption)
 | ((with_reducible apply Az);exact eW rfl;exact eW rfl;exact eW rfl;exact rfl)
 | ((with_reducible apply aBt);exact rfl;exact rfl)
 | ((with_reducible apply EO);exact rfl)
 | ((with_reducible apply EY);rotate_left;exact rfl;rotate_left;assumption)
 | ((with_reducible apply IV);exact rfl)
 | ((with_reducible apply XI);exact rfl)
 | ((with_reducible apply Br);rotate_left;exact rfl;exact eW rfl;rotate_left;assumption)
 | ((with_reducible apply Og);exact TI.h;exact eW rfl;exact TI.h;exact rfl;exact rfl;exact rfl;exact rfl;exact rfl;exact LL)
 | ((with_reducible apply YB);exact rfl;exact rfl;exact eW rfl;assumption)
 | ((with_reducible apply Hr);exact args)
 | ((with_reducible apply YF);exact rfl;exact rfl;exact rfl;assumption;exact rfl;exact rfl)
 | ((with_reducible apply Ki);rotate_left;exact rfl;exact rfl;exact rfl;exact Ek rfl;exact lK rfl;rotate_left;exact(iX (by assumption)).2.2)):JO F o O s []:=k
theorem ko{new d':List (Nat×j2)}(k:KO C F o O s new d':=by first
 | (apply RY;exact rfl;exact rfl)
 | (apply RZ;exact rfl;exact rfl)
 | (apply KO.map;exact rfl)
 | (apply KO.wj)
 | (apply KO.aKs)
 | (apply YA;exact rfl;exact eW rfl;exact lK rfl;exact LL;exact rfl;exact rfl;exact rfl;exact rfl;exact rfl)
 | (apply XZ;exact rfl;exact parts;exact nl;exact LH;exact rfl)
 | (apply KO.mkR;exact rfl;exact rfl;exact rfl;exact eW rfl;assumption;exact rfl)
 | (apply YE;exact rfl;exact rfl)
 | (apply KO.of;exact jo2)
 | (apply KO.alloc;exact rfl;exact rfl)
 | (apply aCj;exact rfl;exact WE;exact rfl;exact rfl)
 | (apply KO.aWv;exact rfl;exact rfl;exact rfl)):KO C F o O s new d':=k
theorem aCp[TT F.P U u n b]{zs:List α}{z':α}{a:Int}{w:α}{k:Nat}(hx:aV g x=some (.el i k e.n 0))(he:aF dd i=some (.arr T e zs))(hy:aV g y=some (.v e z'))(hs:e.n=n)(hk:k=a.toNat)(hz:Sw.idx zs a=some w):KM C F ⟨none,.store U x y,ty,p,af,gd⟩ ⟨g,dd⟩ ⟨g,(i,.arr T e (zs.set k z'))::dd⟩:=⟨Xu (hk ▸ (iX hz).2.2) hx he hy (lK hs)⟩
theorem KM.ins{κ:Type}[DecidableEq κ]{ke:Fu κ}{D0:aA9}[PK ke D0]{f:Fu β}{m m':List (κ×β)}{k:κ}{v:β}{M KT VT:aAg}{n':Nat}(hx:aV g x=some (.ref i))(hd:aF dd i=some (.mp ke f m))(hy:aV g y=some (.v ke k))(hz:aV g z=some (.v f v))(hm:Cv m k v=some m')(hM:∀w,(underlying M).run F.P w= .ok (.map KT VT) w)(hT:∀w,(underlying KT).run F.P w= .ok D0 w)(hk:C7 n' F.P KT ke)(hn:Nat.ble n' 10000=true):KM C F ⟨none,.insert M x y z,ty,p,af,gd⟩ ⟨g,dd⟩ ⟨g,(i,.mp ke f m')::dd⟩:=⟨jV (cC hm hx hd hy hz hM hT hk hn)⟩
theorem km(k:KM C F o O O':=by first
 | (apply KM.ins;exact rfl;exact rfl;exact rfl;exact rfl;exact rfl;exact eW rfl;exact eW rfl;exact C7.str (eW rfl);exact rfl)
 | (apply KM.store;exact rfl;exact rfl;exact rfl;exact rfl;exact rfl;exact rfl;exact rfl;exact rfl;exact nl)
 | (apply KM.sA;exact rfl;exact rfl;exact rfl;exact rfl;exact rfl;exact WE)
 | (apply KM.sG;exact rfl;exact rfl;exact rfl;exact rfl;exact rfl;exact rfl;exact lK rfl)
 | (apply aCp;exact rfl;exact rfl;exact rfl;exact rfl;exact rfl;assumption)
 | (apply KM.append;exact rfl;exact rfl;exact src;exact eW rfl;exact TI.h;exact lK rfl;exact rfl;exact rfl;exact rfl;assumption;exact rfl;exact rfl;exact nl)):KM C F o O O':=k
theorem jop(k:JO F o O s []:=by first | ((with_reducible apply aZ);exact rfl) | ((with_reducible apply iB);exact rfl;exact rfl) | ((with_reducible apply iO);exact rfl) | ((with_reducible apply VZ);exact rfl;exact rfl)):JO F o O s []:=k
theorem kpr{ops:Array aBa}{it:E4}(k:KP C F ops o O O' it:=by first
 | (apply KP.pu;exact Rn;(intro _;exact jop);exact rfl)
 | (apply WA;exact Rn;exact ko;exact rfl)
 | (apply KP.st;exact rfl;exact rfl;exact rfl;exact rfl;exact rfl;exact rfl;exact rfl;exact rfl;exact nl)
 | (apply aCl;exact rfl;exact rfl;exact rfl;exact rfl;exact rfl;exact WE)
 | (apply KP.sG;exact rfl;exact rfl;exact rfl;exact rfl;exact rfl;exact rfl;exact lK rfl)
 | (apply aBv;exact rfl;exact rfl;exact src;exact eW rfl;exact TI.h;exact lK rfl;exact rfl;exact rfl;exact rfl;assumption;exact rfl;exact rfl;exact nl)
 | (apply KP.w;exact rfl;exact rfl;(first | assumption | exact rfl);exact rfl)
 | (apply aBu;exact rfl;exact rfl;exact rfl)):KP C F ops o O O' it:=k
theorem fln{new:List (Nat×j2)}(h:M9 new:=by ((repeat (first | exact .nil | apply M9.arr));fail_if_success focus skip)):M9 new:=h
theorem kc{γ:Type}{e:Option γ}{s:γ->Slot}{new:γ->List (Nat×j2)}(h:KC F o O e s new:=by first
 | (apply aBx;exact args)
 | (apply aBy;exact args;intro _;exact fls)
 | (apply KC.c;exact args;(intro _;exact rfl);(intro _;exact sn);intro _;exact enl)
 | (apply KC.l;exact args;(intro _;exact rfl);(intro _;exact sn);(intro _;exact enl);(intro _;exact fls);intro _;exact fln)
 | (apply aBz;exact rfl;exact args;exact inferInstance;exact rfl)):KC F o O e s new:=h
end
section
variable {cs:List aBb}{m:Option β}{r:β}{R:Prop}
theorem gw{P:Prop}(h:P:=by
 repeat (first
  | (apply LC;exact rfl;exact rfl;(first | assumption | exact rfl);exact rfl)
  | (apply rD;apply KP.w;exact rfl;exact rfl;(first | assumption | exact rfl);exact rfl)
  | ((fail_if_success (first | (apply GJ.st;exact rfl) | (apply WK;exact rfl) | (apply WL;exact rfl) | (apply WM;exact rfl)));first
  | (apply KZ;exact Rn;exact ko;exact rfl)
  | (apply WJ;exact rfl;kernel_rfl;kernel_rfl;kernel_rfl)
  | (apply rD;exact kpr)
  |intro _
  | (apply LA;exact Rn;exact km)
  | (apply GJ.on;exact Rn;exact ko)
  |apply BY
  |apply GW.seq
  |apply GW.skip
  | (apply aB0;exact rfl;exact rfl;exact LG;exact nl)
  |apply GW.reg
  | (apply WD;exact rfl;exact rfl;exact LG;exact nl;exact MX.h;decide+kernel;decide+kernel)
  | (apply GW.dr;exact MX.h;decide+kernel;decide+kernel)
  | (apply WB;exact rfl)
  | (apply WC;exact rfl)
  | ((with_reducible apply GW.cf);exact rfl)
  | (apply LD;exact rfl;exact rfl;exact rfl)
  | (apply GJ.cf;exact Rn;exact kc;exact rfl;(intro _;exact rfl);intro _;exact nl)
  | (apply WG;exact Rn;exact kcm)
  | (apply GP.cf;exact Rn;exact kc;exact rfl;intro _;exact nl)
  | (apply Li;kernel_rfl;kernel_rfl;kernel_rfl;apply WG;exact Rn;exact kcm)
  | (apply WI;exact rfl;exact rfl;exact LG;exact fsg;exact fsd;exact nl;exact sb)
  | ((with_reducible apply GJ.bk);assumption)
  | (with_reducible apply GJ.bf)
  | (apply GP.sz;kernel_rfl;kernel_rfl;kernel_rfl)
  | ((with_reducible apply GP.bk);assumption)
  | (with_reducible apply GP.bf)
  | (apply GW.block;exact rfl)
  | ((with_reducible apply GW.bk);assumption)
  | (with_reducible apply GW.bf)
  | (with_reducible apply GJ.if)
  | (apply GJ.wj;intro e;subst e;exact sb)
  | (with_reducible apply GP.if)
  | (apply Li;kernel_rfl;kernel_rfl;kernel_rfl)
  |apply GW.ret
  |apply GW.exit
  |apply GW.bDq
  |apply GX.hit
  | (apply GX.aZ9;exact rfl)
  |apply GX.ret
  | ((with_reducible apply SB);intro e;subst e;exact xq)
  | ((with_reducible apply SC);intro e;subst e;exact xqm)
  | (with_reducible apply SD)
  | (apply GW.next;intro e;subst e;exact sb)
  | (apply GX.u9;intro e;subst e;exact sb)
  | (apply GX.bJk;assumption)
  | (apply LF;assumption)
  | (apply GX.bAb;exact rfl;assumption)
  | (apply FU;exact rfl;assumption)
  | (apply GW.bAh;exact rfl;exact sb)
  | (apply GW.bD2;exact rfl;exact sb)
  | (apply GX.bOp;exact rfl;exact sb)
  |apply GX.bJt
  |apply GX.bAi
  | (apply GX.bD1;exact rfl)
  |apply GX.bOn))
 fail_if_success focus skip):P:=h
theorem sr{P:Prop}(h:P:=by
 repeat (first
  | (apply LC;exact rfl;exact rfl;(first | assumption | exact rfl);exact rfl)
  | (apply rD;apply KP.w;exact rfl;exact rfl;(first | assumption | exact rfl);exact rfl)
  | ((fail_if_success (first | (apply GJ.st;exact rfl) | (apply WK;exact rfl) | (apply WL;exact rfl) | (apply WM;exact rfl)));first
  | (apply KZ;exact Rn;exact ko;exact rfl)
  | (apply WJ;exact rfl;kernel_rfl;kernel_rfl;kernel_rfl)
  | (apply rD;exact kpr)
  |intro _
  | (apply LA;exact Rn;exact km)
  | (apply GJ.on;exact Rn;exact ko)
  |apply BY
  |apply GW.seq
  |apply GW.skip
  | (apply aB1;exact rfl;exact rfl;exact LG;exact nl;exact gw)
  |apply GW.reg
  | (apply aB2;exact rfl;exact rfl;exact LG;exact nl;exact MX.h;decide+kernel;decide+kernel;exact gw)
  | (apply GW.dr;exact MX.h;decide+kernel;decide+kernel)
  | (apply WB;exact rfl)
  | (apply WC;exact rfl)
  | ((with_reducible apply GW.c1);exact rfl;(intro _;exact gw))
  | (apply LD;exact rfl;exact rfl;exact rfl)
  | (apply GJ.cr;exact Rn;exact kc;exact rfl;(intro _;exact rfl);intro _;exact nl)
  | (apply WH;exact Rn;exact kcm)
  | (apply GP.cr;exact Rn;exact kc;exact rfl;intro _;exact nl)
  | (apply Li;kernel_rfl;kernel_rfl;kernel_rfl;apply WH;exact Rn;exact kcm)
  | (apply WI;exact rfl;exact rfl;exact LG;exact fsg;exact fsd;exact nl;exact sb)
  | ((with_reducible apply GJ.bk);assumption)
  | (with_reducible apply GJ.b)
  | (apply GP.sz;kernel_rfl;kernel_rfl;kernel_rfl)
  | ((with_reducible apply GP.bk);assumption)
  | (with_reducible apply aBw)
  | (apply GW.block;exact rfl)
  | ((with_reducible apply GW.bk);assumption)
  | (with_reducible apply GW.b)
  | ((fail_if_success (with_reducible apply GP.if));apply Li;kernel_rfl;kernel_rfl;kernel_rfl)
  |apply GW.ret
  |apply GW.exit
  |apply GW.bDq
  |apply GX.hit
  | (apply GX.aZ9;exact rfl)
  |apply GX.ret))
 first | (with_reducible exact GW.z) | (with_reducible exact GJ.z) | (with_reducible exact GP.z) | (with_reducible exact GX.z)):P:=h
theorem gr(k:R)(h:GW C F cs O Q m r R:=by exact sr):GW C F cs O Q m r True:=⟨λ_ e=>h.go k e⟩
theorem gj{ops:Array aBa}{os:List aBa}{X:AS->Prop}(k:R)(h:GJ C F ops os O X m r R:=by exact sr):GJ C F ops os O X m r True:=⟨λ_ e=>h.go k e⟩
theorem gp{σ0:AS}{acc:List E4}{ops:Array aBa}{os:List aBa}{X:AS->Prop}(k:R)(h:GP C F ops σ0 acc os O X m r R:=by exact sr):GP C F ops σ0 acc os O X m r True:=⟨λ_ e=>h.go k e⟩
end
class EnL (k:Nat) (ss:List Slot) (g:outParam (List (Nat×Slot))):Prop where
 h:enum k ss=g
instance {k:Nat}:EnL k [] []:=⟨rfl⟩
instance {k:Nat} {s:Slot} {ss:List Slot} {g:List (Nat×Slot)} [h:EnL (k+1) ss g]:EnL k (s::ss) ((k,s)::g):=⟨by rw[enum,h.h]⟩
theorem mc{β:Type}{m:Option β}{P:aA5}{f:aA6}{ss:List Slot}{res:β->Slot}{new:β->List (Nat×j2)}{fn:Func}{c:aBb}{g:List (Nat×Slot)}[hn:EnL 0 ss g](C:List Nat)(hf:P.funcs[f]? =some fn)(N:Nat)(hb:fn.body=some c)
  (h:∀r S w,bp ⟨P,N,S,w,λ_=>False,none,[]⟩ ⟨P,N,S,w,λ_=>False,none,[]⟩->GW C ⟨P,N,S,w,λ_=>False,none,[]⟩ [c] ⟨g,[]⟩ (Ad ⟨P,N,S,w,λ_=>False,none,[]⟩ fn (res r) (new r)) m r True) (hle:Nat.ble ss.length N=true:=by rfl) (hN:Nat.beq fn.ntmps N=true:=by kernel_rfl) (hq:(fn.name== "runtime.NumGoroutine")=false:=by kernel_rfl):MC m P f ss res new:=
 ⟨λ{r} e=>O4.of hf hb (gP hN) hle λS w u=>by rw[hn.h];exact(h r S w u).go trivial e,Yt hf hb hq⟩
theorem sD{β:Type}{m:Option β}{P:aA5}{f:aA6}{ss:List Slot}{D:(Nat->Nat)->List (Nat×j2)}{res:β->Slot}{new:(Nat->Nat)->β->List (Nat×j2)}{fn:Func}{c:aBb}{g:List (Nat×Slot)}[hn:EnL 0 ss g](C:List Nat)(hf:P.funcs[f]? =some fn)(N:Nat)(hb:fn.body=some c)
  (h:∀A r S w R,bp ⟨P,N,S,w,R,none,[]⟩ ⟨P,N,S,w,R,none,[]⟩->GW C ⟨P,N,S,w,R,none,[]⟩ [c] ⟨g,D A⟩ (rN ⟨P,N,S,w,R,none,[]⟩ fn (res r) (new A r)) m r True) (hle:Nat.ble ss.length N=true:=by rfl) (hN:Nat.beq fn.ntmps N=true:=by kernel_rfl) (hq:(fn.name== "runtime.NumGoroutine")=false:=by kernel_rfl):F6 m P f ss D res new:=
 ⟨λA {r} e=>A3.of hf hb (gP hN) hle λS w R u=>by rw[hn.h];exact(h A r S w R u).go trivial e,Yt hf hb hq⟩
end Go.Sw
