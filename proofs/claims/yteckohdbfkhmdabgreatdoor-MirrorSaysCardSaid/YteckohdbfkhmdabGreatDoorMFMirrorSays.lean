/- Plain laws about these plain functions alone. The library over the model: how values lie, what is ours in memory, rules for operations, calls, loops. Conditions: none. -/
import Derived.Test.YteckohdbfkhmdabGreatDoorMEMirrorSays
import Derived.WalkKit
import Derived.ProofKit
import Derived.OpenShut
import Derived.ChangeOld
import Derived.Below
import Derived.SizedLaws
set_option linter.unusedVariables false
set_option linter.unusedSimpArgs false
namespace Go.PlEp
open Go.Pl
open Go Go.Sw Go.Mo
def Kc(bs:List aQ)(ps:List oD):List aQ:=ps.foldl (fun bs p=>bs.set p.1.toNat p.2) bs
def Fo(l:List oD)(i:Nat):Option oD:=l.reverse.find? fun q=>q.1==(i:Int)
theorem aBo(p:oD)(l:List oD)(i:Nat):Fo (p::l) i=(Fo l i).or (if p.1=(i:Int) then some p else none):=by
 unfold Fo;rw[List.reverse_cons,List.find?_append];congr 1;by_cases h:p.1=(i:Int)
 ·simp[h]
 ·simp[h]
theorem Pa(p:oD)(l:List oD)(i:Nat):Fo (l++[p]) i=if p.1=(i:Int) then some p else Fo l i:=by
 unfold Fo;rw[List.reverse_append];by_cases h:p.1=(i:Int)
 ·simp[h]
 ·simp[h]
theorem Rc:∀(l:List oD) (bs:List aQ) (i:Nat),(∀p∈l,0<=p.1)->(Kc bs l)[i]? =match Fo l i with | some p=>if i<bs.length then some p.2 else none | none=>bs[i]?
 | [],bs,i,_=>rfl
 |p::l,bs,i,h=>by
  have A:=h p (by simp);show (Kc (bs.set p.1.toNat p.2) l)[i]? =_;rw[Rc l _ i fun q z=>h q (by simp[z]),aBo];cases hg:Fo l i with
  |some q=>simp[hg]
  |none=>
   simp only[Option.none_or];by_cases u:p.1=(i:Int)
   ·have:p.1.toNat=i:=by omega
    rw[aF2 u,this,aMy];simp
   ·have:p.1.toNat≠i:=by omega
    rw[aD0 u,aK4 this]
theorem Pb{bs:List aQ}{l l':List oD}(h:∀p∈l,0<=p.1)(h':∀p∈l',0<=p.1)(hg:∀i,Fo l i=Fo l' i):Kc bs l=Kc bs l':=by
 apply aMk;intro i;rw[Rc l bs i h,Rc l' bs i h',hg i]
theorem aBp{n:Int}{l:List oD}{p:oD}(h:risB n (-1) l=true)(i:Nat):Fo (putF l p) i=Fo (l++[p]) i:=by
 obtain⟨E,A,rfl,C,D,_⟩:=Dr n p.1 l _ h;rw[Fl C D,Pa];unfold Fo;simp only[List.reverse_append,List.reverse_cons,List.find?_append];have B:((A.filter fun x=>decide (x.1≠p.1)).reverse.find? fun q=>q.1==(i:Int))=if p.1=(i:Int) then none else A.reverse.find? fun q=>q.1==(i:Int):=by
  rw[<-List.filter_reverse,List.find?_filter];split
  ·rename_i u;rw[List.find?_eq_none];intro x _;simp;omega
  ·rename_i u;congr 1;funext x;by_cases z:x.1=(i:Int)
   ·have:x.1≠p.1:=by omega
    simp[z];omega
   ·simp[z]
 rw[B];by_cases u:p.1=(i:Int)
 ·simp[u]
 ·simp[u]
def atA(A:List (Option oD))(i:Nat):Option oD:=(A[i]?).join
theorem Tu{A:List (Option oD)}(h:Rel A)(i:Nat):Fo (A.filterMap id) i=atA A i:=by
 unfold Fo atA;have E:∀q,(A.filterMap id).reverse.find? (fun q=>q.1==(i:Int))=some q->(A[i]?).join=some q:=by
  intro q u;have F:=List.find?_some u;have z:=List.mem_of_find?_eq_some u;rw[List.mem_reverse,aNr] at z;obtain⟨o,G,D⟩:=z;simp only[id_eq] at D;subst D;obtain⟨j,H,I⟩:=aOj G;have B:A[j]? =some (some q):=by rw[aCl H,I]
  have C:=h j q B;have:j=i:=by simp at F;omega
  subst this;rw[B];rfl
 cases u:(A.filterMap id).reverse.find? (fun q=>q.1==(i:Int)) with
 |some q=>rw[E q u]
 |none=>
  rw[List.find?_eq_none] at u;cases hA:A[i]? with
  |none=>rfl
  |some o=>
   cases o with
   |none=>rfl
   |some q=>
    have C:=h i q hA;exfalso;refine u q ?_ (by simp[C]);rw[List.mem_reverse,aNr];exact⟨some q,aL3 hA,rfl⟩
theorem aHe{A:List (Option oD)}{p:oD}(h:p∈A.filterMap id):∃j:Nat,A[j]? =some (some p):=by
 obtain⟨o,z,u⟩:=aNr.1 h;simp only[id_eq] at u;subst u;obtain⟨j,B,C⟩:=aOj z;exact⟨j,by rw[aCl B,C]⟩
theorem Ml{A:List (Option oD)}(h:Rel A){p:oD}(hp:p∈A.filterMap id):0<=p.1/\p.1<(A.length:Int):=by
 obtain⟨j,u⟩:=aHe hp;have:=h j p u;have z:=(aMj.1 u).1;omega
theorem aHf{A:List (Option oD)}{p:oD}(h0:0<=p.1)(hl:p.1<(A.length:Int))(i:Nat):atA (Aq A p) i=if p.1=(i:Int) then some p else atA A i:=by
 unfold atA Aq;by_cases h:p.1=(i:Int)
 ·have:p.1.toNat=i:=by omega
  rw[aF2 h,this,aMy];have:i<A.length:=by omega
  simp[this]
 ·have:p.1.toNat≠i:=by omega
  rw[aD0 h,aK4 this]
theorem Tv{bs:List aQ}:∀(ps:List oD) {A:List (Option oD)},Rel A->(∀p∈ps,0<=p.1/\p.1<(A.length:Int))->Kc bs ((ps.foldl Aq A).filterMap id)=Kc (Kc bs (A.filterMap id)) ps/\Rel (ps.foldl Aq A)
 | [],_,h,_=>⟨rfl,h⟩
 |p::ps,A,h,C=>by
  have z:=C p (by simp);have B:=h.set z.1;obtain⟨D,E⟩:=Tv (bs:=bs) ps B fun q u=>by rw[show (Aq A p).length=A.length from aM0];exact C q (by simp[u])
  refine⟨?_,E⟩;show Kc bs ((ps.foldl Aq (Aq A p)).filterMap id)=Kc ((Kc bs (A.filterMap id)).set p.1.toNat p.2) ps;rw[D];congr 1;have:(Kc bs (A.filterMap id)).set p.1.toNat p.2=Kc bs (A.filterMap id++[p]):=by unfold Kc;rw[aNe];rfl
  rw[this];refine Pb (fun q u=>(Ml B u).1) (fun q u=>?_) fun i=>?_
  ·rcases aI9.1 u with u | u
   ·exact(Ml h u).1
   ·simp at u;subst u;exact z.1
  ·rw[Tu B,aHf z.1 z.2,Pa,Tu h]
def Zm(snaps:List (List aQ))(l:List Ep):Prop:=∀e∈l,1<=e.1/\Kc (snaps.getD (e.1 - 1).toNat []) e.2=snaps.getD e.1.toNat []
theorem Tw{n base k:Int}{snaps:List (List aQ)}(hn:n<=32)(hk:base - 1<=k)(hb:1<=base):∀(l:List Ep),Fk n base 0 l=true->Zm snaps l->
  Kc (snaps.getD k.toNat []) ((oG (List.replicate 32 none) k l).filterMap id)=snaps.getD (max k (base+l.length - 1)).toNat []/\Rel (oG (List.replicate 32 none) k l):=by
 have I:∀(l:List Ep) (i:Int) (e:Ep),Fk n base i (l++[e])=true->Fk n base i l=true/\risB n (-1) e.2=true/\e.1=base+i+l.length:=by
  intro l
  induction l with
  |nil=>
   intro i e h;simp only[aKn,Fk] at h;split at h
   ·rename_i u;exact⟨rfl,u.1,by simpa using u.2⟩
   ·cases h
  |cons x l F=>
   intro i e h;simp only[aKr,Fk] at h ⊢;split at h
   ·rename_i u;obtain⟨A,B,T⟩:=F (i+1) e h;rw[aF2 u];exact⟨A,B,by rw[T];simp only[aIa];omega⟩
   ·cases h
 have K:∀(m:Nat) (l:List Ep),l.length=m->Fk n base 0 l=true->Zm snaps l->
  Kc (snaps.getD k.toNat []) ((oG (List.replicate 32 none) k l).filterMap id)=snaps.getD (max k (base+l.length - 1)).toNat []/\Rel (oG (List.replicate 32 none) k l):=by
  intro m
  induction m with
  |zero=>
   intro l z _ _;have:=aIe z;subst this;refine⟨?_,fun j p E=>?_⟩
   ·have:(oG (List.replicate 32 (none:Option oD)) k []).filterMap id=[]:=by simp[oG,List.filterMap_replicate]
    rw[this];have:max k (base+(([]:List Ep).length:Int) - 1)=k:=by simp only[aKb];omega
    rw[this];rfl
   ·simp only[oG,List.foldl_nil,aN3] at E;split at E<;>cases E
  |succ m F=>
   intro l z H C;rcases List.eq_nil_or_concat l with rfl |⟨q,e,rfl⟩
   ·simp at z
   rw[List.concat_eq_append] at z H C ⊢;obtain⟨u,D,h3⟩:=I q 0 e H;obtain⟨A,B⟩:=F q (by simp at z;exact z) u fun Q R=>C Q (by simp[R]);obtain⟨c1,U⟩:=C e (by simp);have L:((q++[e]).length:Int)=q.length+1:=by simp
   have M:oG (List.replicate 32 none) k (q++[e])=if k<e.1 then e.2.foldl Aq (oG (List.replicate 32 none) k q) else oG (List.replicate 32 none) k q:=by simp[oG]
   rw[M,L];by_cases G:k<e.1
   ·rw[aF2 G];have N:=ris_bounds n e.2 _ D;have aa:(oG (List.replicate 32 (none:Option oD)) k q).length=32:=by rw[Ar];simp
    obtain⟨V,X⟩:=Tv (bs:=snaps.getD k.toNat []) e.2 B fun p S=>by have:=N p S;omega
    refine⟨?_,X⟩;rw[V,A];have O:max k (base+(q.length:Int) - 1)=e.1 - 1:=by omega
    have P:max k (base+((q.length:Int)+1) - 1)=e.1:=by omega
    rw[O,P,U]
   ·rw[aD0 G];refine⟨?_,B⟩;rw[A];congr 2;omega
 intro l u D;exact K l.length l rfl u D
theorem tM{A:Type}{l:List A}{x d:A}{i:Nat}(h:i<l.length):(l++[x]).getD i d=l.getD i d:=by
 rw[aEg,aEg,aLl h]
theorem Dt{A:Type}{l:List A}{x d:A}{i:Nat}(h:i=l.length):(l++[x]).getD i d=x:=by
 subst h;rw[aEg];simp
theorem Xd{n k:Int}{l:List Ep}(h:∀e∈l,risB n (-1) e.2=true){j:Nat}{p:oD}(hp:(oG (List.replicate 32 none) k l)[j]? =some (some p)):0<=p.1/\p.1<n:=by
 have E:∀(q:List oD) (A:List (Option oD)),(∀x∈q,0<=x.1/\x.1<n)->(∀(j:Nat) (p:oD),A[j]? =some (some p)->0<=p.1/\p.1<n)->∀(j:Nat) (p:oD),(q.foldl Aq A)[j]? =some (some p)->0<=p.1/\p.1<n:=by
  intro q
  induction q with
  |nil=>intro A _ h;exact h
  |cons x q C=>
   intro A B z;refine C _ (fun y G=>B y (by simp[G])) fun j p u=>?_;unfold Aq at u;rw[aMy] at u;split at u
   ·split at u
    ·cases u;exact B _ (by simp)
    ·cases u
   ·exact z j p u
 have F:∀(l:List Ep) (A:List (Option oD)),(∀e∈l,risB n (-1) e.2=true)->(∀(j:Nat) (p:oD),A[j]? =some (some p)->0<=p.1/\p.1<n)->∀(j:Nat) (p:oD),(oG A k l)[j]? =some (some p)->0<=p.1/\p.1<n:=by
  intro l
  induction l with
  |nil=>intro A _ z;exact z
  |cons e l C=>
   intro A D z;refine C _ (fun H I=>D H (by simp[I])) fun j p u=>?_;simp only at u;split at u
   ·exact E e.2 A (fun x B=>by have:=ris_bounds n e.2 _ (D e (by simp)) x B;omega) z j p u
   ·exact z j p u
 exact F l _ h (fun j p u=>by rw[aN3] at u;split at u<;>cases u) j p hp
end Go.PlEp
namespace Go.PlPn
open Go.Pl
open Go Go.Sw Go.Mo
theorem aEp(l:List aQ)(b:aQ)(h:l.length<=1000000):Ch l b=some (if b∈l then ((l.idxOf b:Nat):Int) else -1):=by
 unfold Ch;rw[show (0:Int)=((0:Nat):Int) from rfl,An (l:=l) (fun i (_:Unit)=>(i:Int)) () (fun i z _=>if z=b then .done (.ret (i:Int)) else .next ()) (fun _=> .brk ()) (by unfold fI;omega)]
 ·have:∀(l:List aQ) (i:Nat),rY (fun (i:Nat) (z:aQ) (_:Unit)=>(if z=b then Step.done (Ex.ret (i:Int)) else .next ():Step Unit (Ex Unit Int))) (fun _=> .brk ()) i () l=if b∈l then .ret ((i+l.idxOf b:Nat):Int) else .brk ():=by
   intro l;induction l with
   |nil=>intro i;simp[rY]
   |cons x l C=>
    intro i;simp only[rY];by_cases u:x=b
    ·subst u;simp
    ·have A:¬b=x:=fun h=>u h.symm;rw[aD0 u];simp only[C,aF3,A,false_or,List.idxOf_cons];have:(x==b)=false:=by simp[u]
     rw[this];simp only[pF];split<;>simp<;>omega
  rw[this];split<;>simp[out]
 ·rintro B x D acc rfl;simp only[oC,aCj,lY,cM,Hl,inc (n:=B.length) (m:=1000000) (by simp at h;omega) (by omega)];by_cases u:x=b<;>simp[u,Hl]
 ·intro _;simp[dC]
theorem Pc(pre:List aQ)(z:aQ):eV (pre.map fun x=>(x,true)) z=if z∈pre then some true else none:=by
 induction pre with
 |nil=>simp[eV]
 |cons x pre A=>
  simp only[aIx,eV,A,aF3];by_cases u:x=z
  ·simp[u]
  ·have:¬z=x:=fun h=>u h.symm;simp[u,this]
theorem check_is(l:List aQ)(h:l.length<=1000000):pG l=some (if l.length>8 then some 2 else if l.Nodup then none else some 3):=by
 unfold pG;by_cases E:l.length>8
 ·have:cm .gtr (l.length:Int) 8=true:=by simp[cm];omega
  rw[this];simp[E]
 have:cm .gtr (l.length:Int) 8=false:=by simp[cm];omega
 rw[this,aD0 E];simp only[pF];rw[show ((0:Int),([]:List (aQ×Bool)))=(((0:Nat):Int),(l.take 0).map fun x=>(x,true)) from rfl,An (l:=l) (fun i (_:Unit)=>((i:Int),(l.take i).map fun x=>(x,true))) () (fun i z _=>if z∈l.take i then .done (.ret (some 3)) else .next ()) (fun _=> .brk ()) (by unfold fI;omega)]
 ·have:∀(u pre:List aQ),l=pre++u->pre.Nodup->rY (fun (i:Nat) (z:aQ) (_:Unit)=>(if z∈l.take i then Step.done (Ex.ret (some 3)) else .next ():Step Unit (Ex Unit (Option Int)))) (fun _=> .brk ()) pre.length () u=if l.Nodup then .brk () else .ret (some 3):=by
   intro u;induction u with
   |nil=>intro pre B D;rw[aKc] at B;subst B;simp[rY,D]
   |cons x u K=>
    intro pre B D;simp only[rY];have C:l.take pre.length=pre:=by rw[B];simp
    rw[C];by_cases A:x∈pre
    ·rw[aF2 A];have:¬l.Nodup:=by rw[B,List.nodup_append];rintro⟨_,_,I⟩;exact I x A x (by simp) rfl
     simp[this]
    ·rw[aD0 A];have:=K (pre++[x]) (by rw[B];simp) (by rw[List.nodup_append];exact⟨D,by simp,fun a H b F=>by simp at F;subst F;rintro rfl;exact A H⟩);simpa using this
  have:=this l [] rfl (by simp);simp only[aKb] at this;rw[this];split<;>simp[out]
 ·rintro pre x u acc rfl;have C:(pre++x::u).take pre.length=pre:=by simp
  simp only[oC,aCj,lY,cM,C,Pc,Hl,inc (n:=pre.length) (m:=1000000) (by simp at h;omega) (by omega)];by_cases A:x∈pre
  ·simp[A,Hl]
  ·have G:(pre++x::u).take (pre.length+1)=pre++[x]:=by rw[List.take_append];simp[aLs]
   simp only[A,aJ6,aO2,pF,Fx,Pc,cM,Hl,G];simp
 ·intro _;simp[dC]
end Go.PlPn
namespace Go.PlPn
open Go.Pl
open Go Go.Sw Go.Mo
abbrev Chg:=Int×Int×Int×aQ
def Rd(h:List aQ):Int:=if h.length>8 then 2 else if h.Nodup then 0 else 3
def planErr(e h:List aQ):Int:=if e.length<1\/e.length>32 then 1 else Rd h
def opt(n:Int):Option Int:=if n=0 then none else some n
theorem Mm(l:List aQ)(h:l.length<=1000000):pG l=some (opt (Rd l)):=by
 rw[check_is l h];unfold Rd opt;by_cases u:l.length>8
 ·simp[u]
 by_cases z:l.Nodup<;>simp[u,z]
theorem Mn(e h:List aQ)(hh:h.length<=1000000):nF e h=some (opt (planErr e h)):=by
 unfold nF planErr;simp only[cl,cg,Mm h hh];by_cases u:e.length<1
 ·have:(e.length:Int)<1:=by omega
  simp[u,this,opt]
 by_cases B:e.length>32
 ·have z:¬(e.length:Int)<1:=by omega
  have A:(e.length:Int)>32:=by omega
  simp[u,B,z,A,opt]
 have z:¬(e.length:Int)<1:=by omega
 have A:¬(e.length:Int)>32:=by omega
 simp[u,B,z,A]
def Nu(n prev:Int)(x:Chg):Bool:=decide (x.1<=prev) || decide (x.1>=n) || decide (x.2.1<0) || decide (x.2.1>3)
def Gu(n:Int):Int->List Chg->Bool
 |_,[]=>true
 |prev,x::l=> !Nu n prev x && Gu n x.1 l
theorem aHg(n prev:Int)(x:Chg){γ:Type}(k:Bool->Option γ):((bif (cm .leq x.1 prev) then
  some true
  else
   bif (cm .geq x.1 n) then
    some true
   else
    bif (cm .lss x.2.1 (0:Int)) then
     some true
    else
     some (cm .gtr x.2.1 (3:Int))).bind k)=k (Nu n prev x):=by
 simp only[cle,cge,cl,cg];unfold Nu;by_cases h:x.1<=prev
 ·simp[h]
 by_cases u:x.1>=n
 ·simp[h,u]
 by_cases z:x.2.1<0
 ·simp[h,u,z]
 simp[h,u,z]
theorem Pd{n:Int}:∀{l:List Chg} {prev:Int},Gu n prev l=true->∀x∈l,0<=x.2.1/\x.2.1<=3
 | [],_,_,x,u=>by simp at u
 |y::l,prev,h,x,u=>by
  simp only[Gu,aIb,aLq] at h;rcases aF3.1 u with rfl | u
  ·have:=h.1;unfold Nu at this;simp at this;omega
  ·exact Pd h.2 x u
def Tx(w n:Int)(l:List Chg):Int:=if w=0 then (if Gu n (-1) l then 0 else 1) else w
theorem aEq{γ:Type}(l:List Chg)(n:Int)(z:γ)(hl:l.length<=1000000)(k:Unit->Option γ):
  lp (β:=Unit) (fun (s25:Int×Int)=>
    bif (cm .lss s25.2 (l.length:Int)) then
     (Sw.idx l s25.2).bind fun z39=>
      (bif (cm .leq z39.1 s25.1) then
       some true
      else
       bif (cm .geq z39.1 n) then
        some true
       else
        bif (cm .lss z39.2.1 (0:Int)) then
         some true
        else
         some (cm .gtr z39.2.1 (3:Int))).bind fun x43=>
       bif x43 then
        some (.done (.ret z))
       else
        some (.next (z39.1,(ar .add .i64 s25.2 (1:Int))))
    else
     some (.done (.brk ()))
    ) ((-1:Int),(0:Int)) k=if Gu n (-1) l then k () else some z:=by
 refine(An (l:=l) (fun i (acc:Int)=>(acc,(i:Int))) (-1:Int) (fun _ x acc=>if Nu n acc x then .done (.ret z) else .next x.1) (fun _=> .brk ()) (Fh hl (by decide)) ?_ ?_).trans ?_
 ·intro B x C acc h;simp only[jY h,aCj,jN h,cM,aHg];by_cases u:Nu n acc x=true
  ·simp[u,Hl]
  ·simp only[aLv] at u;rw[nxt (by rw[h] at hl;simp at hl;omega)];simp[u,Hl]
 ·intro acc;simp only[dC,pF]
 ·have:∀(l:List Chg) (i:Nat) (prev:Int),rY (fun (_:Nat) (x:Chg) (acc:Int)=>(if Nu n acc x then .done (.ret z) else .next x.1:Step Int (Ex Unit γ))) (fun _=> .brk ()) i prev l=if Gu n prev l then .brk () else .ret z:=by
   intro l
   induction l with
   |nil=>intro i prev;simp[rY,Gu]
   |cons x l A=>
    intro i prev;simp only[rY];by_cases u:Nu n prev x=true
    ·simp[u,Gu]
    ·simp only[aLv] at u;simp[u,Gu,A]
  rw[this];by_cases g:Gu n (-1) l=true<;>simp[g,out]
def zM(x:Chg)(e h:List aQ):aQ×Bool:=
 if x.2.1=0 then (aU,true) else if x.2.1=3 then (x.2.2.2,true) else
  let l:=if x.2.1=2 then h else e
  if x.2.2.1<0\/x.2.2.1>=l.length then (aU,false) else (l.getD x.2.2.1.toNat [],true)
theorem aEr(l:List aQ)(n:Int):((bif (cm .lss n (0:Int)) then
  some true
        else
         some (cm .geq n (l.length:Int))).bind fun x5=>
         bif x5 then
          some (aU,false)
         else
          (Sw.idx l n).bind fun z8=>
           some (z8,true))=some (if n<0\/n>=l.length then (aU,false) else (l.getD n.toNat [],true)):=by
 rw[cl,cge];by_cases h:n<0
 ·simp[h]
 by_cases u:n>=l.length
 ·simp[h,u]
 have z:n.toNat<l.length:=by omega
 have:Sw.idx l n=some (l.getD n.toNat []):=by unfold Sw.idx;rw[aF2 (by omega)];simp[aEg,aCl z]
 simp only[h,u,aJ7,pF,cM,this,aO9,aJ6]
theorem aJo(l:List aQ)(n:Int):sF l n=some (if n<0\/n>=l.length then (aU,false) else (l.getD n.toNat [],true)):=aEr l n
def Re(e h:List aQ)(x:Chg)(acc:List (Int×aQ)×List Int):List (Int×aQ)×List Int:=
 if (zM x e h).2 then (acc.1++[(x.1,(zM x e h).1)],acc.2) else (acc.1,acc.2++[x.1])
def puts(e h:List aQ)(l:List Chg):List (Int×aQ)×List Int:=(l.zipIdx).foldl (fun acc x=>Re e h x.1 acc) ([],[])
theorem aEs(e h:List aQ)(x:Chg)(acc:List (Int×aQ)×List Int):(Re e h x acc).1.length+(Re e h x acc).2.length=acc.1.length+acc.2.length+1:=by
 unfold Re;split<;>simp<;>omega
theorem aEt{γ:Type}(e h:List aQ)(x:Chg)(acc:List (Int×aQ)×List Int)(ha:acc.1.length+acc.2.length<=1000000)(k:List (Int×aQ)×List Int->Option γ)(v:aQ×Bool)(hv:v=zM x e h):
  (bif v.2 then (Sw.app acc.1 ([(x.1,v.1)]:(List (Int×aQ)))).bind fun v119=>k (v119,acc.2) else (Sw.app acc.2 ([x.1]:(List Int))).bind fun v121=>k (acc.1,v121))=k (Re e h x acc):=by
 subst hv;unfold Re;rw[app_small _ _ (by simp;omega),app_small _ _ (by simp;omega)];by_cases c:(zM x e h).2=true
 ·simp[c]
 ·simp only[aLv] at c;simp[c]
theorem Ty(l:List Chg)(e h:List aQ)(hl:l.length<=1000)(hk:∀x∈l,0<=x.2.1/\x.2.1<=3){γ:Type}(k:List (Int×aQ)×List Int->Option γ):
  lp (β:=(List (Int×aQ))×(List Int)) (fun (s88:Int×(List (Int×aQ))×(List Int))=>
    bif (cm .lss s88.1 (l.length:Int)) then
     (Sw.idx l s88.1).bind fun z111=>
      bif (cm .eql z111.2.1 (1:Int)) then
       (sF e z111.2.2.1).bind fun v113=>
        bif v113.2 then
         (Sw.app s88.2.1 ([(z111.1,v113.1)]:(List (Int×aQ)))).bind fun v115=>
          some (.next ((ar .add .i64 s88.1 (1:Int)),v115,s88.2.2))
        else
         (Sw.app s88.2.2 ([z111.1]:(List Int))).bind fun v116=>
          some (.next ((ar .add .i64 s88.1 (1:Int)),s88.2.1,v116))
      else
       bif (cm .eql z111.2.1 (2:Int)) then
        (sF h z111.2.2.1).bind fun v118=>
         bif v118.2 then
          (Sw.app s88.2.1 ([(z111.1,v118.1)]:(List (Int×aQ)))).bind fun v120=>
           some (.next ((ar .add .i64 s88.1 (1:Int)),v120,s88.2.2))
         else
          (Sw.app s88.2.2 ([z111.1]:(List Int))).bind fun v121=>
           some (.next ((ar .add .i64 s88.1 (1:Int)),s88.2.1,v121))
       else
        bif (cm .eql z111.2.1 (3:Int)) then
         (Sw.app s88.2.1 ([(z111.1,z111.2.2.2)]:(List (Int×aQ)))).bind fun v124=>
          some (.next ((ar .add .i64 s88.1 (1:Int)),v124,s88.2.2))
        else
         (Sw.app s88.2.1 ([(z111.1,aU)]:(List (Int×aQ)))).bind fun v127=>
          some (.next ((ar .add .i64 s88.1 (1:Int)),v127,s88.2.2))
    else
     some (.done (.brk (s88.2.1,s88.2.2)))
    ) ((0:Int),([]:(List (Int×aQ))),([]:(List Int))) k=k (puts e h l):=by
 refine(lp_inv (l:=l) (fun i (acc:List (Int×aQ)×List Int)=>((i:Int),acc.1,acc.2)) (fun i acc=>acc.1.length+acc.2.length=i) ([],[]) (fun _ x acc=>Re e h x acc) id (Fh (n:=1000) hl (by decide)) rfl ?_ ?_).trans ?_
 ·intro D x K acc B F;have H:D.length<=1000:=by rw[B] at hl;simp at hl;omega
  have I:=hk x (by rw[B];simp);refine⟨?_,by rw[aEs,F]⟩;simp only[jY B,aCj,ce,cM,jN B,aJo];rw[nxt (by omega)];have z:=fun v G=>aEt e h x acc (by omega) (fun a=>(some (.next (((D.length+1:Nat):Int),a.1,a.2)):Option (Step (Int×(List (Int×aQ))×(List Int)) (Ex ((List (Int×aQ))×(List Int)) γ)))) v G;by_cases u:x.2.1=1
  ·have:=z (if x.2.2.1<0\/x.2.2.1>=e.length then (aU,false) else (e.getD x.2.2.1.toNat [],true)) (by unfold zM;simp[u]);simp only[u,aMi,aCj];exact this
  by_cases A:x.2.1=2
  ·have:=z (if x.2.2.1<0\/x.2.2.1>=h.length then (aU,false) else (h.getD x.2.2.1.toNat [],true)) (by unfold zM;simp[A]);simp only[u,A,aMi,aJ7,aCj,pF];exact this
  by_cases C:x.2.1=3
  ·have:=z (x.2.2.2,true) (by unfold zM;simp[C]);simp only[u,A,C,aMi,aJ7,aCj,pF];exact this
  ·have E:x.2.1=0:=by omega
   have:=z (aU,true) (by unfold zM;simp[E]);simp only[u,A,C,aJ7,pF];exact this
 ·intro acc _;simp only[dC,pF];rfl
 ·rfl
theorem aEu(l:List Chg)(e h:List aQ)(hl:l.length<=1000)(hh:h.length<=1000000):oA l e h=some (if Tx (planErr e h) e.length l=0 then ((puts e h l).1,(puts e h l).2,none) else ([],[],some (Tx (planErr e h) e.length l))):=by
 unfold oA;rw[Mn e h hh,cM];unfold Tx;by_cases u:planErr e h=0
 ·simp only[u,opt,aKi,aA8,pF];rw[aEq l _ _ (by omega)];by_cases g:Gu e.length (-1) l=true
  ·simp only[g,aKi];rw[Ty l e h hl (Pd g)]
  ·simp[g]
 ·simp[u,opt]
end Go.PlPn
namespace Go.PlPn
open Go.Pl
open Go Go.Sw Go.Mo
theorem Zn{α:Type}[DecidableEq α]{k:α}:∀{l:List α},kp l k=none->k∉l
 | [],_=>by simp
 |a::l,h=>by
  simp only[kp] at h;split at h
  ·cases h
  ·rename_i u;cases hr:kp l k with
   |none=>have:=Zn hr;simp only[aF3,not_or];exact⟨fun e=>u e.symm,this⟩
   |some j=>rw[hr] at h;cases h
theorem Pe{α β:Type}[DecidableEq α]{k:α}:∀{m:List (α×β)},k∉m.map (·.1)->eV m k=none
 | [],_=>rfl
 | (a,b)::m,h=>by
  simp only[aIx,aF3,not_or] at h;simp only[eV,aD0 (fun e=>h.1 (Eq.symm e))];exact Pe h.2
theorem Ja{α β:Type}[DecidableEq α]{k:α}{v:β}{b:α}:∀{m:List (α×β)},k∉m.map (·.1)->eV (m++[(k,v)]) b=if b=k then some v else eV m b
 | [],_=>by simp only[aKn,eV];by_cases h:k=b<;>simp[h];intro e;exact(h e.symm).elim
 | (a,c)::m,h=>by
  simp only[aIx,aF3,not_or] at h;simp only[aKr,eV,Ja h.2];by_cases u:a=b
  ·subst u;rw[aF2 rfl,aF2 rfl,aD0 (fun e=>h.1 e.symm)]
  ·simp[u]
theorem Pf{α β:Type}[DecidableEq α]{k:α}{v:β}{b:α}:∀{m:List (α×β)} {q:Nat},kp (m.map (·.1)) k=some q->eV (vF m q v) b=if b=k then some v else eV m b
 | [],q,h=>by simp[kp] at h
 | (a,c)::m,q,h=>by
  simp only[aIx,kp] at h;split at h
  ·rename_i z;cases h;subst z;simp only[vF,List.modify_zero_cons,eV];by_cases u:a=b
   ·simp[u]
   ·have:¬b=a:=fun e=>u e.symm;simp[u,this]
  ·rename_i z;cases hr:kp (m.map (·.1)) k with
   |none=>rw[hr] at h;cases h
   |some j=>
    rw[hr] at h;cases h;have:=Pf (v:=v) (b:=b) hr;simp only[vF] at this;simp only[vF,List.modify_succ_cons,eV,this];by_cases u:a=b
    ·subst u;simp[z]
    ·simp[u]
theorem aHh{κ α:Type}[DecidableEq κ](m:List (κ×List α))(k:κ)(hm:m.length<=140737488355328):
  ∃r,Qr m k=some r/\r.2.2=(eV m k).getD []/\(∀v b,eV (vF r.1 r.2.1 v) b=if b=k then some v else eV m b)/\∀v,(vF r.1 r.2.1 v).length<=m.length+1:=by
 unfold Qr;rw[aF2 hm];cases hk:kp (m.map (·.1)) k with
 |none=>
  have u:=Zn hk;refine⟨_,rfl,by rw[Pe u];rfl,fun v b=>?_,fun v=>?_⟩
  ·have:vF (m++[(k,[])]) m.length v=m++[(k,v)]:=by
    apply aMk;intro i;simp only[vF,aLz];rcases Nat.lt_trichotomy i m.length with h | h | h
    ·rw[aLl h,aLl h];have:¬m.length=i:=by omega
     simp[this]
    ·subst h;simp
    ·rw[aIg (by simp;omega),aIg (by simp;omega)];rfl
   simp only[this];exact Ja u
  ·simp[vF]
 |some q=>
  refine⟨_,rfl,?_,fun v b=>Pf hk,fun v=>by simp[vF]⟩;rw[Yu,hk];rfl
structure IdxOk (l:List aQ) (M:List (aQ×List Int)):Prop where
 none:∀b,b∉l->eV M b=Option.none
 some:∀b,b∈l->∃t,eV M b=Option.some (((l.idxOf b:Nat):Int)::t)/\t.length<=l.length
 len:M.length<=l.length
theorem clone_is(l:List aQ)(h:l.length<=1000000):aP l=some l:=by
 unfold aP;rw[app_small _ _ (by simp;omega)];rfl
theorem IdxOk.add{l:List aQ}{M M':List (aQ×List Int)}{x:aQ}(h:IdxOk l M)(hg:∀b,eV M' b=if b=x then Option.some ((eV M x).getD []++[(l.length:Int)]) else eV M b)(hlen:M'.length<=M.length+1):IdxOk (l++[x]) M':=by
 refine⟨fun b z=>?_,fun b z=>?_,by have:=h.len;simp;omega⟩
 ·simp only[aI9,aMm,not_or] at z;rw[hg,aD0 z.2,h.none b z.1]
 ·rw[hg];by_cases A:b=x
  ·subst A;rw[aF2 rfl,List.idxOf_append];by_cases u:b∈l
   ·obtain⟨t,B,C⟩:=h.some b u;rw[B,aF2 u];exact⟨t++[(l.length:Int)],by simp,by simp;omega⟩
   ·rw[h.none b u,aD0 u];exact⟨[],by simp,by simp⟩
  ·have u:b∈l:=by
    rcases aI9.1 z with h | h
    ·exact h
    ·exact(A (by simpa using h)).elim
   rw[aD0 A,List.idxOf_append,aF2 u];obtain⟨t,B,C⟩:=h.some b u;exact⟨t,B,by simp;omega⟩
theorem Tz(l:List aQ)(h1:1<=l.length)(h2:l.length<=32):∃M,IdxOk l M/\uX l=some (some (l,M),none):=by
 unfold uX;have E:cm .lss (l.length:Int) 1=false:=by rw[cl];simp;omega
 have F:cm .gtr (l.length:Int) 32=false:=by rw[cg];simp;omega
 simp only[E,pF,F,cM,clone_is l (by omega)];have G:((0:Int),([]:List (aQ×List Int)))=(fun (i:Nat) (acc:List (aQ×List Int))=>((i:Int),acc)) 0 []:=rfl;rw[G]
 obtain⟨M,O,P⟩:=aEh (l:=l) (k:=fun I=>some (some (l,I),(none:Option Int))) (step:=fun (u:Int×(List (aQ×(List Int))))=>
        bif (cm .lss u.1 (l.length:Int)) then
         (Sw.idx l u.1).bind fun K=>
          (Qr u.2 K).bind fun B=>
           (Sw.app B.2.2 ([u.1]:(List Int))).bind fun L=>
            some (.next ((ar .add .i64 u.1 (1:Int)),vF B.1 B.2.1 L))
        else
         some (.done (.brk u.2))) (fun (i:Nat) (acc:List (aQ×List Int))=>((i:Int),acc)) (fun h acc=>IdxOk h acc) (fun acc=>acc) [] (by unfold fI;omega) ⟨fun b _=>rfl,fun b N=>by simp at N,aDn _⟩ (by
   intro h x V acc A z;have U:h.length<32:=by rw[A] at h2;simp at h2;omega
   obtain⟨r,Q,D,R,S⟩:=aHh acc x (by have:=z.len;omega);have H:r.2.2.length+1<=4294967296:=by
    rw[D];by_cases C:x∈h
    ·obtain⟨t,T,X⟩:=z.some x C;rw[T];simp;omega
    ·rw[z.none x C];simp
   refine⟨vF r.1 r.2.1 (r.2.2++[(h.length:Int)]),?_,z.add (fun b=>?_) (S _)⟩
   ·simp only[jY A,aCj,jN A,cM,Q,app_small _ [(h.length:Int)] (by simpa using H)];rw[nxt (by omega)]
   ·rw[R,D]) (by
   intro acc z
   simp only[dC,pF])
 exact⟨M,O,P⟩
theorem Gv{l l':List aQ}{M:List (aQ×List Int)}(h:IdxOk l M)(b:aQ):lB (some (l',M)) b=some (if b∈l then (((l.idxOf b:Nat):Int),true) else (0,false)):=by
 unfold lB;simp only[cM];by_cases u:b∈l
 ·obtain⟨t,z,_⟩:=h.some b u;rw[z,aF2 u];have:cm .eql (((some (((l.idxOf b:Nat):Int)::t)).getD []).length:Int) 0=false:=by rw[ce];simp;omega
  rw[this];simp[Sw.idx]
 ·rw[h.none b u,aD0 u];simp[ce]
theorem aEv(l:List aQ)(b:aQ)(h:l.length<=1000000):dO l b=some (if b∈l then ((l.idxOf b:Nat):Int) else -1):=by
 rw[<-aEp l b h];unfold dO Ch;have:∀z:aQ,decide (b=z)=decide (z=b):=fun z=>by by_cases h:b=z<;>simp[h];intro e;exact(h e.symm).elim
 simp only[this]
theorem Gw(l:List aQ)(b:aQ)(h:l.length<=1000000):tC l b=some (if b∈l then (((l.idxOf b:Nat):Int),true) else (0,false)):=by
 unfold tC;rw[aEv l b h,cM];by_cases u:b∈l
 ·simp only[u,aKi,cge];congr 2<;>simp
 ·simp[u,cge];decide
abbrev Pt:=Int×aQ
def Rw(p:Pt)(peer had:List aQ):Chg:=
 if p.2=aU then (p.1,0,0,aU) else if p.2∈peer then (p.1,1,((peer.idxOf p.2:Nat):Int),aU) else if p.2∈had then (p.1,2,((had.idxOf p.2:Nat):Int),aU) else (p.1,3,0,p.2)
def same(p:Pt)(peer:List aQ):Bool:=decide (peer[p.1.toNat]? =some p.2)
def pkts(puts:List Pt)(peer had:List aQ):List Chg:=(puts.filter fun p=> !same p peer).map fun p=>Rw p peer had
theorem aHi{γ:Type}{peer peer' had:List aQ}{M:List (aQ×List Int)}(h:IdxOk peer M)(hh:had.length<=1000000)(p:Pt)(acc:List Chg)(ha:acc.length<=1000000)(k:List Chg->Option γ):
  lp (β:=(List (Int×Int×Int×aQ))) (fun (s262:Int)=>
    bif (cm .lss s262 (([(.inl ():kX),(.inr (.inl (some (peer',M))):kX),(.inr (.inr (.inl had)):kX),(.inr (.inr (.inr (.inl ()))):kX)]:(List kX)).length:Int)) then
     (Sw.idx ([(.inl ():kX),(.inr (.inl (some (peer',M))):kX),(.inr (.inr (.inl had)):kX),(.inr (.inr (.inr (.inl ()))):kX)]:(List kX)) s262).bind fun z271=>
      (iQ z271 p).bind fun v272=>
       bif v272.2 then
        (Sw.app acc ([v272.1]:(List (Int×Int×Int×aQ)))).bind fun v274=>
         some (.done (.brk v274))
       else
        some (.next (ar .add .i64 s262 (1:Int)))
    else
     some (.done (.brk acc))
    ) (0:Int) k=k (acc++[Rw p peer had]):=by
 obtain⟨z,A⟩:∃z,z=([(.inl ():kX),(.inr (.inl (some (peer',M))):kX),(.inr (.inr (.inl had)):kX),(.inr (.inr (.inr (.inl ()))):kX)]:(List kX)):=⟨_,rfl⟩
 rw[<-A];have D:∀w∈z,∃v,iQ w p=some v:=by
  intro w F;rw[A] at F;simp only[aF3,aM1,aO3] at F;rcases F with rfl | rfl | rfl | rfl
  ·exact⟨_,rfl⟩
  ·exact⟨_,by simp only[iQ,nG,Gv h,cM];rfl⟩
  ·exact⟨_,by simp only[iQ,lC,Gw had _ hh,cM];rfl⟩
  ·exact⟨_,rfl⟩
 have H:∀q:Chg,Sw.app acc [q]=some (acc++[q]):=fun q=>app_small acc [q] (by simp;omega);rw[show (0:Int)=(fun (i:Nat) (_:Unit)=>(i:Int)) 0 () from rfl,An (l:=z) (fun (i:Nat) (_:Unit)=>(i:Int)) () (fun _ w _=>match iQ w p with | some v=>if v.2=true then .done (.brk (acc++[v.1])) else .next () | none=> .next ()) (fun _=> .brk acc) (by rw[A];unfold fI;simp)]
 ·have I:iQ (.inl ()) p=some ((p.1,0,0,aU),decide (p.2=aU)):=rfl;have K:iQ (.inr (.inl (some (peer',M)))) p=some ((p.1,1,(if p.2∈peer then (((peer.idxOf p.2:Nat):Int),true) else (0,false)).1,aU),(if p.2∈peer then (((peer.idxOf p.2:Nat):Int),true) else (0,false)).2):=by
   simp only[iQ,nG,Gv h,cM]
  have L:iQ (.inr (.inr (.inl had))) p=some ((p.1,2,(if p.2∈had then (((had.idxOf p.2:Nat):Int),true) else (0,false)).1,aU),(if p.2∈had then (((had.idxOf p.2:Nat):Int),true) else (0,false)).2):=by
   simp only[iQ,lC,Gw had _ hh,cM]
  have N:iQ (.inr (.inr (.inr (.inl ())))) p=some ((p.1,3,0,p.2),true):=rfl;rw[A];simp only[rY,I,K,L,N];unfold Rw;by_cases B:p.2=aU
  ·simp[B,out]
  by_cases E:p.2∈peer
  ·simp[B,E,out]
  by_cases G:p.2∈had
  ·simp[B,E,G,out]
  ·simp[B,E,G,out]
 ·intro O x Q u C;obtain⟨v,D⟩:=D x (by rw[C];simp);have P:O.length<=4:=by
   have:z.length=4:=by rw[A];rfl
   rw[C] at this;simp at this;omega
  simp only[jY C,aCj,jN C,cM,D,H];cases hv2:v.2 with
  |true=>simp[Hl]
  |false=>simp only[pF,aIk,aJ6,Hl];rw[nxt (by omega)]
 ·intro u;simp only[dC,pF]
end Go.PlPn
namespace Go.PlPn
open Go.Pl
open Go Go.Sw Go.Mo
def badP(n prev:Int)(x:Pt):Bool:=decide (x.1<=prev) || decide (x.1>=n)
def rise(n:Int):Int->List Pt->Bool
 |_,[]=>true
 |prev,x::l=> !badP n prev x && rise n x.1 l
theorem rise_mem{n:Int}:∀{l:List Pt} {prev:Int},rise n prev l=true->∀x∈l,prev<x.1/\x.1<n
 | [],_,_,x,u=>by simp at u
 |y::l,prev,h,x,u=>by
  simp only[rise,aIb,aLq] at h;have z:=h.1;unfold badP at z;simp at z;rcases aF3.1 u with rfl | u
  ·omega
  ·have:=rise_mem h.2 x u;omega
theorem aEw{γ:Type}(l:List Pt)(n:Int)(z:γ)(hl:l.length<=1000000)(k:Unit->Option γ):
  lp (β:=Unit) (fun (s17:Int×Int)=>
    bif (cm .lss s17.2 (l.length:Int)) then
     (Sw.idx l s17.2).bind fun z27=>
      (bif (cm .leq z27.1 s17.1) then
       some true
      else
       some (cm .geq z27.1 n)).bind fun x29=>
       bif x29 then
        some (.done (.ret z))
       else
        some (.next (z27.1,(ar .add .i64 s17.2 (1:Int))))
    else
     some (.done (.brk ()))
    ) ((-1:Int),(0:Int)) k=if rise n (-1) l then k () else some z:=by
 rw[show ((-1:Int),(0:Int))=(fun (i:Nat) (acc:Int)=>(acc,(i:Int))) 0 (-1) from rfl,Ka (l:=l) (fun (i:Nat) (acc:Int)=>(acc,(i:Int))) (fun _ _=>True) (fun acc x=>if badP n acc x then .done (.ret z) else .next x.1) (fun _=> .brk ()) (-1) (by unfold fI;omega) trivial]
 ·have:∀(l:List Pt) (prev:Int),xY (fun (acc:Int) (x:Pt)=>(if badP n acc x then Step.done (Ex.ret z) else .next x.1:Step Int (Ex Unit γ))) (fun _=> .brk ()) prev l=if rise n prev l then .brk () else .ret z:=by
   intro l
   induction l with
   |nil=>intro prev;simp[xY,rise]
   |cons x l C=>
    intro prev;simp only[xY,rise];by_cases u:badP n prev x=true
    ·simp[u]
    ·simp[u,C]
  rw[this];cases rise n (-1) l<;>simp[out]
 ·rintro B x E acc rfl -;have D:B.length<=1000000:=by simp at hl;omega
  refine⟨?_,fun _ _=>trivial⟩;simp only[oC,aCj,lY,cM];simp only[cge,cle];rw[nxt (by omega)];unfold badP;by_cases h:x.1<=acc
  ·simp[h,Hl]
  ·by_cases A:x.1>=n
   ·simp[h,A,Hl]
   ·simp[h,A,Hl]
 ·rintro acc -;simp only[dC,pF]
theorem pkts_len(l:List Pt)(peer had:List aQ):(pkts l peer had).length<=l.length:=by unfold pkts;rw[aLc];exact aM6 _ _
theorem aEx(pre:List Pt)(x:Pt)(peer had:List aQ):pkts (pre++[x]) peer had=pkts pre peer had++(if same x peer then [] else [Rw x peer had]):=by
 unfold pkts;rw[aLw,aMz];cases h:same x peer<;>simp[aOc,h]
theorem aEy:opt 0=none:=rfl
theorem aJp{n:Int}(h:n≠0):opt n=some n:=by unfold opt;rw[aD0 h]
theorem packets_is(l:List Pt)(peer had:List aQ)(hl:l.length<=1000)(hh:had.length<=1000000):
  qE l peer had=some (if planErr peer had≠0 then ([],some (planErr peer had)) else if rise (peer.length:Int) (-1) l then (pkts l peer had,none) else ([],some 1)):=by
 unfold qE;rw[Mn peer had hh,cM];by_cases h:planErr peer had≠0
 ·rw[aJp h,aF2 h];rfl
 have h:planErr peer had=0:=by simpa using h
 have A:1<=peer.length/\peer.length<=32:=by
  unfold planErr at h;split at h
  ·cases h
  ·omega
 rw[h,aEy];simp only[aA8,pF];rw[aEw l _ _ (by omega)];cases hr:rise (peer.length:Int) (-1) l with
 |false=>simp
 |true=>
  simp only[aKi];obtain⟨M,E,F⟩:=Tz peer A.1 A.2;rw[F,cM];simp only[aA8,pF];have B:((0:Int),([]:List Chg))=(fun (i:Nat) (acc:List Chg)=>((i:Int),acc)) 0 []:=rfl;rw[B];refine(Cu (l:=l) (r:=some (pkts l peer had,none)) (fun (i:Nat) (acc:List Chg)=>((i:Int),acc)) (fun u acc=>acc=pkts u peer had) (fun acc=>acc) [] (by unfold fI;omega) rfl ?_ ?_ ?_).trans (by simp)
  ·rintro u x L acc z rfl;have C:=rise_mem hr x (by rw[z];simp);have I:u.length<=1000:=by rw[z] at hl;simp at hl;omega
   have K:=pkts_len u peer had;obtain⟨y,G,H⟩:=xX (l:=peer) (n:=x.1) (by omega) C.2;have D:same x peer=decide (y=x.2):=by unfold same;rw[H];simp
   refine⟨pkts u peer had++(if same x peer then [] else [Rw x peer had]),?_,(aEx _ _ _ _).symm⟩;simp only[jY z,aCj,jN z,cM,jp,G,<-D];rw[aHi E hh x (pkts u peer had) (by omega)];rw[nxt (by omega)];cases same x peer<;>simp
  ·rintro acc rfl;simp only[dC,pF]
  ·rintro acc rfl;rfl
end Go.PlPn
namespace Go.PlPn
open Go.Pl
open Go Go.Sw Go.Mo
end Go.PlPn
namespace Go.PlPn
open Go.Pl
open Go Go.Sw Go.Mo
theorem Rf(p:Pt)(peer had:List aQ):(Rw p peer had).1=p.1:=by unfold Rw;split;rfl;split;rfl;split<;>rfl
theorem aEz(p:Pt)(peer had:List aQ):0<=(Rw p peer had).2.1/\(Rw p peer had).2.1<=3:=by unfold Rw;split;simp;split;simp;split<;>simp
theorem Ii{n:Int}{peer had:List aQ}:∀{l:List Pt} {prev prev':Int},rise n prev l=true->prev'<=prev->Gu n prev' (pkts l peer had)=true
 | [],_,_,_,_=>rfl
 |x::l,prev,prev',h,B=>by
  simp only[rise,aIb,aLq] at h;have u:=h.1;unfold badP at u;simp at u;cases hs:same x peer with
  |true=>
   have e:pkts (x::l) peer had=pkts l peer had:=by unfold pkts;simp[hs]
   rw[e];exact Ii h.2 (by omega)
  |false=>
   have e:pkts (x::l) peer had=Rw x peer had::pkts l peer had:=by unfold pkts;simp[hs]
   have A:=aEz x peer had;have z:Nu n prev' (Rw x peer had)=false:=by
    unfold Nu;rw[Rf];simp;omega
   rw[e];simp only[Gu,z,aMp,aOz];rw[Rf];exact Ii h.2 (aNp _)
theorem aE0(p:Pt)(peer had:List aQ):zM (Rw p peer had) peer had=(p.2,true):=by
 have D:∀(l:List aQ),p.2∈l->¬(((l.idxOf p.2:Nat):Int)<0\/((l.idxOf p.2:Nat):Int)>=l.length)/\l.getD (((l.idxOf p.2:Nat):Int).toNat) []=p.2:=by
  intro l h;have E:=aOn h;refine⟨by omega,?_⟩;simp[aEg,aCl E]
 unfold Rw;by_cases u:p.2=aU
 ·simp[u,zM]
 by_cases z:p.2∈peer
 ·obtain⟨B,C⟩:=D peer z;simp only[u,z,aJ6,aKi,zM];rw[aD0 (by decide),aD0 (by decide)];simp only[show¬(1:Int)=2 by decide,aJ6,B,C]
 by_cases A:p.2∈had
 ·obtain⟨B,C⟩:=D had A;simp only[u,z,A,aJ6,aKi,zM];rw[aD0 (by decide),aD0 (by decide)];simp only[aKi,B,C,aJ6]
 ·simp[u,z,A,zM]
def news(l:List Pt)(peer:List aQ):List Pt:=l.filter fun p=> !same p peer
theorem aBq(l:List Pt)(peer had:List aQ):puts peer had (pkts l peer had)=(news l peer,[]):=by
 unfold puts;have h:∀(l:List Pt) (i:Nat) (acc:List (Int×aQ)×List Int),(((l.map fun p=>Rw p peer had).zipIdx i).foldl (fun acc x=>Re peer had x.1 acc) acc)=(acc.1++l,acc.2):=by
  intro l
  induction l with
  |nil=>intro i acc;simp
  |cons x l u=>
   intro i acc;rw[aIx,aMt,aKa,u];unfold Re;rw[aE0,Rf];simp
 unfold pkts;rw[h];simp[news]
theorem apply_pkts(l:List Pt)(peer had:List aQ)(hl:l.length<=1000)(hh:had.length<=1000000)(he:planErr peer had=0)(hr:rise (peer.length:Int) (-1) l=true):
  oA (pkts l peer had) peer had=some (news l peer,[],none):=by
 rw[aEu _ _ _ (by have:=pkts_len l peer had;omega) hh];have:Tx (planErr peer had) peer.length (pkts l peer had)=0:=by
  unfold Tx;rw[he,Ii hr (aNp _)];rfl
 rw[aF2 this,aBq]
def Jn(acc:List aQ)(l:List Pt):List aQ:=l.foldl (fun acc p=>acc.set p.1.toNat p.2) acc
theorem setF_news{n:Int}{peer:List aQ}:∀{l:List Pt} {prev:Int} {acc:List aQ},-1<=prev->rise n prev l=true->(∀i:Nat,prev<(i:Int)->acc[i]? =peer[i]?)->Jn acc (news l peer)=Jn acc l
 | [],_,_,_,_,_=>rfl
 |x::l,prev,acc,F,h,z=>by
  simp only[rise,aIb,aLq] at h;have A:=h.1;unfold badP at A;simp at A;have D:x.1=((x.1.toNat:Nat):Int):=by omega
  cases hs:same x peer with
  |true=>
   have e:news (x::l) peer=news l peer:=by unfold news;simp[hs]
   have C:acc.set x.1.toNat x.2=acc:=by
    have B:peer[x.1.toNat]? =some x.2:=by unfold same at hs;simpa using hs
    rw[<-z x.1.toNat (by omega)] at B;apply aMk;intro i;rw[aMy];split
    ·rename_i u;subst u;split
     ·exact B.symm
     ·rename_i E;rw[aIg (by omega)]
    ·rfl
   rw[e,setF_news (by omega) h.2 (fun i u=>z i (by omega))];show _=Jn (acc.set _ _) l;rw[C]
  |false=>
   have e:news (x::l) peer=x::news l peer:=by unfold news;simp[hs]
   rw[e];show Jn (acc.set _ _) (news l peer)=Jn (acc.set _ _) l;refine setF_news (by omega) h.2 (fun i u=>?_);rw[aK4 (by omega)];exact z i (by omega)
end Go.PlPn
namespace Go.PlPn
open Go.Pl
open Go Go.Sw Go.Mo
theorem planErr_zero{peer had:List aQ}(h1:1<=peer.length)(h2:peer.length<=32)(h3:had.length<=8)(h4:had.Nodup):planErr peer had=0:=by
 unfold planErr Rd;rw[aD0 (by omega),aD0 (by omega),aF2 h4]
theorem news_ok{n:Int}{l:List Pt}{peer:List aQ}(hr:rise n (-1) l=true):∀x∈news l peer,0<=x.1/\x.1<n:=by
 intro x h;have:=rise_mem hr x (aMs.1 h).1;omega
end Go.PlPn
namespace Go.PlFr
open Go.Pl
open Go Go.Sw Go.Mo
def Rg:Nat:=3988292384
def Xe(r:Nat):Nat:=if r % 2=1 then r / 2 ^^^ Rg else r / 2
theorem aHj{r:Nat}(h:r<4294967296):Xe r<4294967296:=by
 unfold Xe;split
 ·have:r / 2 ^^^ Rg<2 ^ 32:=aMl (by omega) (by unfold Rg;omega);simpa using this
 ·omega
def Nv:Nat->Nat->Nat
 | 0,r=>r
 |n+1,r=>Xe (Nv n r)
theorem Kd{n r:Nat}(h:r<4294967296):Nv n r<4294967296:=by
 induction n with
 |zero=>exact h
 |succ n u=>exact aHj u
def zN(r:Nat)(b:Nat):Nat:=Nv 8 (r ^^^ b)
theorem At{r b:Nat}(h:r<4294967296)(hb:b<256):zN r b<4294967296:=by
 refine Kd ?_;have:r ^^^ b<2 ^ 32:=aMl (by omega) (by omega);simpa using this
def zO(l:List Nat):Nat:=l.foldl zN 4294967295
theorem Gx(l:List Nat)(r:Nat)(h:r<4294967296)(hb:∀b∈l,b<256):l.foldl zN r<4294967296:=by
 induction l generalizing r with
 |nil=>exact h
 |cons b l z=>exact z _ (At h (hb b (by simp))) (fun x u=>hb x (by simp[u]))
def Bytes(l:List Int):Prop:=∀x∈l,0<=x/\x<=255
def nat(l:List Int):List Nat:=l.map Int.toNat
theorem Gy{l:List Int}(h:Bytes l):∀b∈nat l,b<256:=by
 intro b u;obtain⟨x,z,rfl⟩:=aK3.1 u;have:=h x z;omega
theorem aE1(l:List Int)(h:Bytes l)(hl:l.length<=1000000):sP l=some ((4294967295 - zO (nat l):Nat):Int):=by
 unfold sP;rw[show ((4294967295:Int),(0:Int))=(((⟨4294967295,by decide⟩:{r:Nat // r<4294967296}).1:Int),((0:Nat):Int)) from rfl];rw[An (l:=l) (fun i (r:{r:Nat // r<4294967296})=>((r.1:Int),(i:Int))) ⟨4294967295,by decide⟩ (fun _ x r=> .next ⟨zN r.1 x.toNat % 4294967296,aM4 _ (by decide)⟩) (fun r=> .brk (r.1:Int)) (by unfold fI;omega)]
 ·have:∀(l:List Int) (i:Nat) (r:{r:Nat // r<4294967296}),Bytes l->rY (fun (_:Nat) (x:Int) (r:{r:Nat // r<4294967296})=>(Step.next ⟨zN r.1 x.toNat % 4294967296,aM4 _ (by decide)⟩:Step _ (Ex Int Int))) (fun r=> .brk (r.1:Int)) i r l= .brk (((nat l).foldl zN r.1:Nat):Int):=by
   intro l
   induction l with
   |nil=>intro i r _;rfl
   |cons x l I=>
    intro i r z;simp only[rY,nat,aIx,aKa];have u:=I (i+1) ⟨zN r.1 x.toNat % 4294967296,aM4 _ (by decide)⟩ (fun y G=>z y (by simp[G]));rw[u];have:=z x (by simp);have e:zN r.1 x.toNat % 4294967296=zN r.1 x.toNat:=aJm (At r.2 (by omega));show Ex.brk (((nat l).foldl zN (zN r.1 x.toNat % 4294967296):Nat):Int)=_;rw[e];rfl
  rw[this l 0 _ h];have A:(nat l).foldl zN 4294967295<4294967296:=Gx _ _ (by decide) (Gy h);simp only[out,zO];rw[aK0 A]
 ·rintro H x L ⟨r,B⟩ rfl;have K:=h x (by simp);obtain⟨b,rfl⟩:∃b:Nat,x=(b:Int):=⟨x.toNat,by omega⟩
  have z:b<256:=by omega
  simp only[oC,aCj,lY,cM];have C:r ^^^ b<4294967296:=by
   have:r ^^^ b<2 ^ 32:=aMl (by omega) (by omega);simpa using this
  rw[aIf B (by omega),show ((((r ^^^ b:Nat):Int)),(0:Int))=(fun i:Nat=>((Nv i (r ^^^ b):Int),(i:Int))) 0 from rfl];rw[Tm (fun i:Nat=>((Nv i (r ^^^ b):Int),(i:Int))) 8 ((Nv 8 (r ^^^ b):Nat):Int) (by unfold fI;omega)]
  ·simp only[Hl,inc (n:=H.length) (m:=1000000) (by simp at hl;omega) (by omega),aCk];rw[aJm (At B z)];rfl
  ·intro i F;have A:=Kd (n:=i) C;have D:cm .lss (i:Int) 8=true:=by simp[cm];omega
   have E:(Nv i (r ^^^ b)) / 2<4294967296:=by omega
   simp only[D,aCj,aL4,aKy A,aKz (aM4 _ (by decide:0<2))];rw[aIf E (by split<;>decide),inc (n:=i) (m:=8) F (by omega)];simp only[Nv,Xe,Rg];split
   ·rename_i u;simp[u]
   ·rename_i u;simp[u]
  ·simp[cm]
 ·rintro⟨r,B⟩;simp[dC]
end Go.PlFr
namespace Go.PlFr
open Go.Pl
open Go Go.Sw Go.Mo
abbrev eR:=Int×List Int×List aQ
def vS(x:Int):Bool:=decide (x<0) || decide (x>2147483647)
def dH(f:eR):Int:=if f.1<0\/f.1>15 then 1 else if f.2.1.length>12\/f.2.2.length>32 then 2 else if f.2.1.any vS then 1 else 0
theorem Ua{D:Type}(r:Nat->D)(l:List Int):∀i,rY (fun (i:Nat) (x:Int) (_:Unit)=>(if vS x then Step.done (Ex.ret (r i)) else .next ():Step Unit (Ex Unit D))) (fun _=> .brk ()) i () l=match l.findIdx? vS with | some j=> .ret (r (i+j)) | none=> .brk ():=by
 induction l with
 |nil=>intro i;simp[rY]
 |cons x l u=>
  intro i;simp only[rY,List.findIdx?_cons];by_cases h:vS x=true
  ·simp[h]
  ·simp only[h,aJ6,u,aIk];cases l.findIdx? vS with
   |none=>rfl
   |some j=>simp[aN1,aM8 1]
theorem Ub(l:List Int):l.any vS=(l.findIdx? vS).isSome:=by
 rw[List.findIdx?_isSome]
theorem aBr(x:Int):oO x=some (vS x):=by
 unfold oO vS;by_cases h:x<0
 ·have:cm .lss x 0=true:=by simp[cm,h]
  simp[this,h]
 ·have:cm .lss x 0=false:=by simp[cm];omega
  simp[this,h,cm]
theorem Uc(l:List Int)(h:l.length<=1000000):cH l=some (l.any vS):=by
 unfold cH dJ;rw[show (0:Int)=((0:Nat):Int) from rfl,An (l:=l) (fun i (_:Unit)=>(i:Int)) () (fun i x _=>if vS x then .done (.ret (i:Int)) else .next ()) (fun _=> .brk ()) (by unfold fI;omega)]
 ·rw[Ua (fun i=>(i:Int)),Ub];cases l.findIdx? vS<;>simp[out,cm]
 ·rintro u x z acc rfl;simp only[oC,aCj,lY,cM,aBr,inc (n:=u.length) (m:=1000000) (by simp at h;omega) (by omega)];cases vS x<;>simp[Hl]
 ·intro _;simp[dC]
theorem Ek(f:eR):pE f=some (if dH f=0 then none else some (dH f)):=by
 obtain⟨s,h,u⟩:=f;unfold pE dH;by_cases z:s<0
 ·have:cm .lss s 0=true:=by simp[cm,z]
  simp[this,z]
 have A:cm .lss s 0=false:=by simp[cm];omega
 by_cases C:s>15
 ·have:cm .gtr s 15=true:=by simp[cm];omega
  simp[A,this,C]
 have D:cm .gtr s 15=false:=by simp[cm];omega
 have E:¬(s<0\/s>15):=by omega
 simp only[A,D,pF,cM,E,aJ6];by_cases F:h.length>12
 ·have:cm .gtr (h.length:Int) 12=true:=by simp[cm];omega
  simp[this,F]
 have B:cm .gtr (h.length:Int) 12=false:=by simp[cm];omega
 by_cases G:u.length>32
 ·have:cm .gtr (u.length:Int) 32=true:=by simp[cm];omega
  simp[B,this,G]
 have H:cm .gtr (u.length:Int) 32=false:=by simp[cm];omega
 have I:¬(h.length>12\/u.length>32):=by omega
 simp only[B,H,pF,cM,I,aJ6,Uc h (by omega)];cases h.any vS<;>simp
def vf:Nat->Nat->List Int
 | 0,n=>[(n:Int)]
 |k+1,n=>if n<128 then [(n:Int)] else ((128+n % 128:Nat):Int)::vf k (n / 128)
theorem Mp:∀k n,n<128 ^ (k+1)->Bytes (vf k n)/\(vf k n).length<=k+1
 | 0,n,h=>by
  simp at h;exact⟨fun x u=>by simp[vf] at u;omega,by simp[vf]⟩
 |k+1,n,h=>by
  unfold vf;split
  ·exact⟨fun x u=>by simp at u;omega,by simp⟩
  ·have z:n / 128<128 ^ (k+1):=by rw[aOo] at h;omega
   obtain⟨A,B⟩:=Mp k (n / 128) z;refine⟨fun x u=>?_,by simp;omega⟩;rcases aF3.1 u with rfl | u
   ·have:=aM4 n (by decide:0<128);omega
   ·exact A x u
theorem Pg{γ:Type}{step:Int×List Int->Option (Step (Int×List Int) (Ex (Int×List Int) γ))}
  (h1:∀(n:Nat) acc,128<=n->n<34359738368->acc.length<=1000000->step ((n:Int),acc)=some (.next (((n / 128:Nat):Int),acc++[((128+n % 128:Nat):Int)])))
  (h2:∀(n:Nat) acc,n<128->step ((n:Int),acc)=some (.done (.brk ((n:Int),acc)))):
  ∀(k n:Nat) (acc:List Int) (f:Nat),n<128 ^ (k+1)->n<34359738368->acc.length+k<=1000000->k<f->∃(m:Nat) (acc':List Int),loop step f ((n:Int),acc)=some (.brk ((m:Int),acc'))/\m<128/\acc'++[(m:Int)]=acc++vf k n
 | 0,n,acc,f,h,_,_,C=>by
  obtain⟨f,rfl⟩:∃f',f=f'+1:=⟨f - 1,by omega⟩
  simp at h;exact⟨n,acc,by simp[loop,h2 n acc h],h,rfl⟩
 |k+1,n,acc,f,h,D,E,C=>by
  obtain⟨f,rfl⟩:∃f',f=f'+1:=⟨f - 1,by omega⟩
  by_cases u:n<128
  ·exact⟨n,acc,by simp[loop,h2 n acc u],u,by simp[vf,u]⟩
  ·obtain⟨m,acc',z,A,B⟩:=Pg h1 h2 k (n / 128) (acc++[((128+n % 128:Nat):Int)]) f (by rw[aOo] at h;omega) (by omega) (by simp;omega) (by omega);refine⟨m,acc',?_,A,?_⟩
   ·simp only[loop,h1 n acc (by omega) D (by omega)];exact z
   ·rw[B];simp[vf,u]
theorem aL5:∀a:Fin 256,ar .or .u8 ((a.1:Nat):Int) 128=((128+a.1 % 128:Nat):Int):=by decide+kernel
theorem Cw(n:Nat):IntKind.wrap .u8 (n:Int)=((n % 256:Nat):Int):=by
 simp[IntKind.wrap,IntKind.signed,IntKind.bits]
theorem aL6(n:Nat):sh .shr .i64 (n:Int) 7=((n / 128:Nat):Int):=by
 show Int.fdiv _ _=_;have:(2:Int) ^ min (7:Int).toNat (IntKind.bits .i64)=128:=by decide
 rw[this,aKt _ (by omega)];omega
theorem hdr:∀s:Fin 16,∀n:Fin 13,ar .or .u8 (sh .shl .u8 (IntKind.wrap .u8 (s.1:Int)) 4) (IntKind.wrap .u8 (n.1:Int))=IntKind.wrap .u8 (ar .add .i64 (ar .mul .i64 16 (s.1:Int)) (n.1:Int)):=by decide+kernel
def Gz(f:eR):List Int:=[IntKind.wrap .u8 (ar .add .i64 (ar .mul .i64 16 f.1) (f.2.1.length:Int)),IntKind.wrap .u8 (f.2.2.length:Int)]
def vs(ns:List Int):List Int:=ns.flatMap fun n=>vf 4 n.toNat
def body(f:eR):List Int:=Gz f++vs f.2.1++f.2.2.flatten
def sum4(v:Nat):List Int:=[((v / 16777216:Nat):Int),((v / 65536 % 256:Nat):Int),((v / 256 % 256:Nat):Int),((v % 256:Nat):Int)]
def bC(f:eR):List Int:=body f++sum4 (4294967295 - zO (nat (body f)))
theorem lp_inv{α A B β γ:Type}{step:α->Option (Step α (Ex β γ))}{l:List A}{k:β->Option γ}(st:Nat->B->α)(I:Nat->B->Prop)(acc0:B)(g:Nat->A->B->B)(fin:B->β)(hf:l.length<fI)(h0:I 0 acc0)
  (hs:∀pre x rest acc,l=pre++x::rest->I pre.length acc->step (st pre.length acc)=some (.next (st (pre.length+1) (g pre.length x acc)))/\I (pre.length+1) (g pre.length x acc))
  (he:∀acc,I l.length acc->step (st l.length acc)=some (.done (.brk (fin acc)))):
  lp step (st 0 acc0) k=k (fin ((l.zipIdx).foldl (fun acc x=>g x.2 x.1 acc) acc0)):=by
 have C:∀(rest pre:List A) (acc:B) (f:Nat),l=pre++rest->I pre.length acc->rest.length<f->loop step f (st pre.length acc)=some (.brk (fin ((rest.zipIdx pre.length).foldl (fun acc x=>g x.2 x.1 acc) acc))):=by
  intro rest
  induction rest with
  |nil=>
   intro pre acc f u z hf;obtain⟨f,rfl⟩:∃f',f=f'+1:=⟨f - 1,by simp at hf;omega⟩
   have:=he acc (by rw[u,aKc];exact z);rw[u,aKc] at this;simp[loop,this]
  |cons x rest F=>
   intro pre acc f u z hf;obtain⟨f,rfl⟩:∃f',f=f'+1:=⟨f - 1,by simp at hf;omega⟩
   obtain⟨D,E⟩:=hs pre x rest acc u z;simp only[loop,D];have:=F (pre++[x]) (g pre.length x acc) f (by rw[u];simp) (by simpa using E) (by simp at hf;omega);simpa using this
 have h:=C l [] acc0 fI rfl h0 hf;unfold lp;simp only[aKb] at h;rw[h]
theorem foldl_zipIdx{A:Type}(w:A->List Int):∀(l:List A) (i:Nat) (acc:List Int),(l.zipIdx i).foldl (fun acc x=>acc++w x.1) acc=acc++l.flatMap w
 | [],_,acc=>by simp
 |x::l,i,acc=>by simp[foldl_zipIdx w l]
end Go.PlFr
namespace Go.PlFr
open Go.Pl
open Go Go.Sw Go.Mo
theorem app_small{α:Type}(xs ys:List α)(h:xs.length+ys.length<=4294967296):Sw.app xs ys=some (xs++ys):=by unfold Sw.app;rw[aF2 h]
end Go.PlFr
namespace Go.PlFr
open Go.Pl
open Go Go.Sw Go.Mo
theorem aHk{γ:Type}{step:Int×List Int->Option (Step (Int×List Int) (Ex (Int×List Int) γ))}{k:Int×List Int->Option γ}
  (h1:∀(n:Nat) acc,128<=n->n<34359738368->acc.length<=1000000->step ((n:Int),acc)=some (.next (((n / 128:Nat):Int),acc++[((128+n % 128:Nat):Int)])))
  (h2:∀(n:Nat) acc,n<128->step ((n:Int),acc)=some (.done (.brk ((n:Int),acc)))) (n:Nat) (acc:List Int) (hn:n<34359738368) (ha:acc.length<=900000):
  ∃(m:Nat) (acc':List Int),lp step ((n:Int),acc) k=k ((m:Int),acc')/\m<128/\acc'++[(m:Int)]=acc++vf 4 n:=by
 obtain⟨m,acc',h,u,z⟩:=Pg h1 h2 4 n acc fI (by omega) hn (by omega) (by unfold fI;omega);exact⟨m,acc',by unfold lp;rw[h],u,z⟩
structure Good (f:eR):Prop where
 s0:0<=f.1
 s1:f.1<=15
 ns:f.2.1.length<=12
 bs:f.2.2.length<=32
 num:∀n∈f.2.1,0<=n/\n<=2147483647
 blk:∀b∈f.2.2,b.length=8/\Bytes b
theorem rE{f:eR}(h:dH f=0)(hb:∀b∈f.2.2,b.length=8/\Bytes b):Good f:=by
 unfold dH at h;split at h
 ·cases h
 ·split at h
  ·cases h
  ·split at h
   ·cases h
   ·rename_i B C u;refine⟨by omega,by omega,by omega,by omega,fun n z=>?_,hb⟩;have:¬vS n=true:=fun A=>u (aNn.2 ⟨n,z,A⟩);simp[vS] at this;omega
theorem Ud{ns:List Int}(h:∀n∈ns,0<=n/\n<=2147483647):Bytes (vs ns)/\(vs ns).length<=5*ns.length:=by
 induction ns with
 |nil=>exact⟨fun x u=>by simp[vs] at u,by simp[vs]⟩
 |cons n ns C=>
  obtain⟨z,A⟩:=C (fun x u=>h x (by simp[u]));have D:=h n (by simp);obtain⟨B,E⟩:=Mp 4 n.toNat (by omega);refine⟨fun x u=>?_,?_⟩
  ·simp only[vs,aOw,aI9] at u;rcases u with u | u
   ·exact B x u
   ·exact z x u
  ·simp only[vs,aOw,sM,aIa];unfold vs at A;omega
theorem flat_bytes{bs:List aQ}(h:∀b∈bs,b.length=8/\Bytes b):Bytes bs.flatten/\bs.flatten.length=8*bs.length:=by
 induction bs with
 |nil=>exact⟨fun x u=>by simp at u,rfl⟩
 |cons b bs D=>
  obtain⟨z,A⟩:=D (fun x u=>h x (by simp[u]));obtain⟨B,C⟩:=h b (by simp);refine⟨fun x u=>?_,by simp only[aNa,sM,A,B,aIa];omega⟩;simp only[aNa,aI9] at u;rcases u with u | u
  ·exact C x u
  ·exact z x u
theorem qH{f:eR}(h:Good f):Bytes (body f)/\(body f).length<=1000:=by
 obtain⟨z,B⟩:=Ud h.num;obtain⟨A,C⟩:=flat_bytes h.blk;have:=h.ns;have:=h.bs;refine⟨fun x u=>?_,by simp only[body,Gz,sM,aIa,aKb];omega⟩;simp only[body,aI9] at u;rcases u with (u | u) | u
 ·simp only[Gz,aF3,aM1,aO3] at u;rcases u with rfl | rfl
  ·have:=xN .u8 (ar .add .i64 (ar .mul .i64 16 f.1) (f.2.1.length:Int));unfold Db at this;simpa[IntKind.min,IntKind.max,IntKind.signed,IntKind.bits] using this
  ·have:=xN .u8 (f.2.2.length:Int);unfold Db at this;simpa[IntKind.min,IntKind.max,IntKind.signed,IntKind.bits] using this
 ·exact z x u
 ·exact A x u
theorem Du{f:eR}(h:Good f)(he:dH f=0):lV f=some (bC f,none):=by
 obtain⟨s,u,A⟩:=f;have M:=h.s0;have N:=h.s1;have D:=h.ns;have E:=h.bs;have F:=h.num;have G:=h.blk;simp only at D E F G M N;obtain⟨aj,ak⟩:=Ud F;obtain⟨al,am⟩:=flat_bytes G;obtain⟨K,an⟩:=qH h;unfold lV;rw[Ek,aF2 he];simp only[cM,aA8,pF];have O:ar .or .u8 (sh .shl .u8 (IntKind.wrap .u8 s) 4) (IntKind.wrap .u8 (u.length:Int))=IntKind.wrap .u8 (ar .add .i64 (ar .mul .i64 16 s) (u.length:Int)):=by
  have:=hdr ⟨s.toNat,by omega⟩ ⟨u.length,by omega⟩;have e:((s.toNat:Nat):Int)=s:=by omega
  simpa[e] using this
 rw[O,show ((0:Int),[IntKind.wrap .u8 (ar .add .i64 (ar .mul .i64 16 s) (u.length:Int)),IntKind.wrap .u8 (A.length:Int)])=(((0:Nat):Int),Gz (s,u,A)) from rfl];rw[lp_inv (l:=u) (fun i (acc:List Int)=>((i:Int),acc)) (fun i acc=>acc.length<=2+5*i) (Gz (s,u,A)) (fun _ n acc=>acc++vf 4 n.toNat) (fun acc=>acc) (by unfold fI;omega) (by simp[Gz])]
 ·rw[foldl_zipIdx (fun n:Int=>vf 4 n.toNat)];rw[show ((0:Int),Gz (s,u,A)++u.flatMap (fun n=>vf 4 n.toNat))=(((0:Nat):Int),Gz (s,u,A)++vs u) from rfl];rw[lp_inv (l:=A) (fun i (acc:List Int)=>((i:Int),acc)) (fun i acc=>acc.length<=100+8*i) (Gz (s,u,A)++vs u) (fun _ z acc=>acc++z) (fun acc=>acc) (by unfold fI;omega) (by simp[Gz];omega)]
  ·rw[foldl_zipIdx (fun z:aQ=>z)];have P:Gz (s,u,A)++vs u++A.flatMap (fun z=>z)=body (s,u,A):=by simp[body,List.flatMap_id']
   rw[P,aE1 _ K (by omega)];simp only[cM];have ad:zO (nat (body (s,u,A)))<4294967296:=Gx _ _ (by decide) (Gy K);generalize hv:4294967295 - zO (nat (body (s,u,A)))=v;have ae:v<4294967296:=by omega
   have Q:sh .shr .u32 (v:Int) 24=((v / 16777216:Nat):Int):=by
    show Int.fdiv _ _=_;have:(2:Int) ^ min (24:Int).toNat (IntKind.bits .u32)=16777216:=by decide
    rw[this,aKt _ (by omega)];omega
   have R:sh .shr .u32 (v:Int) 16=((v / 65536:Nat):Int):=by
    show Int.fdiv _ _=_;have:(2:Int) ^ min (16:Int).toNat (IntKind.bits .u32)=65536:=by decide
    rw[this,aKt _ (by omega)];omega
   have S:sh .shr .u32 (v:Int) 8=((v / 256:Nat):Int):=by
    show Int.fdiv _ _=_;have:(2:Int) ^ min (8:Int).toNat (IntKind.bits .u32)=256:=by decide
    rw[this,aKt _ (by omega)];omega
   rw[Q,R,S,Cw,Cw,Cw,Cw];rw[app_small _ _ (by simp;omega)];simp only[cM,bC,hv,sum4];have T:v / 16777216 % 256=v / 16777216:=aJm (by omega);simp[T]
  ·rintro C z ac acc rfl hI;obtain⟨hz,_⟩:=G z (by simp);simp only[oC,aCj,lY,cM];have af:C.length<=32:=by simp at E;omega
   rw[app_small _ _ (by omega),inc (n:=C.length) (m:=1000000) (by simp at E;omega) (by omega)];exact⟨rfl,by simp;omega⟩
  ·intro acc _;simp[dC]
 ·rintro C n ac acc rfl hI;have hn:=F n (by simp);obtain⟨m,rfl⟩:∃m:Nat,n=(m:Int):=⟨n.toNat,by omega⟩
  simp only[oC,aCj,lY,cM];have U:acc.length<=900000:=by simp at D;omega
  obtain⟨q,ab,H,h4,L⟩:=aHk (γ:=Step (Int×List Int) (Ex (List Int) (List Int×Option Int))) (step:=fun (B:Int×(List Int))=>
    bif (cm .gtr B.1 (127:Int)) then
     (Sw.app B.2 ([(ar .or .u8 (IntKind.wrap .u8 B.1) (128:Int))]:(List Int))).bind fun X=>
      some (.next ((sh .shr .i64 B.1 (7:Int)),X))
    else
     some (.done (.brk (B.1,B.2))))
   (k:=fun (I:Int×(List Int))=>(Sw.app I.2 ([(IntKind.wrap .u8 I.1)]:(List Int))).bind fun aa=>some (.next ((ar .add .i64 (C.length:Int) (1:Int)),aa)))
   (by
    intro n acc V h2 H;have:cm .gtr (n:Int) 127=true:=by simp[cm];omega
    simp only[this,aCj];rw[Cw,aL5 ⟨n % 256,aM4 _ (by decide)⟩,app_small _ _ (by simp;omega),aL6];simp only[cM]
    rw[Nat.mod_mod_of_dvd _ (by decide:128 ∣ 256)])
   (by
    intro n acc V;have:cm .gtr (n:Int) 127=false:=by simp[cm];omega
    simp[this]) m acc (by omega) U
  have ah:=(Mp 4 m (by omega)).2;have ai:ab.length+1=acc.length+(vf 4 m).length:=by
   have:=congrArg List.length L;simpa using this
  rw[H];simp only[Cw];rw[app_small _ _ (by simp at D;simp;omega),aJm (by omega:q<256),L,inc (n:=C.length) (m:=1000000) (by simp at D;omega) (by omega)];refine⟨by simp,by simp;omega⟩
 ·intro acc _;simp[dC]
theorem Xf{f:eR}(h:Good f):(bC f).length<=1000000:=by
 have:=(qH h).2;simp[bC,sum4];omega
end Go.PlFr
namespace Go.PlFr
open Go.Pl
open Go Go.Sw Go.Mo
theorem cl(m n:Int):cm .lss m n=decide (m<n):=rfl
theorem cg(m n:Int):cm .gtr m n=decide (m>n):=rfl
theorem cle(m n:Int):cm .leq m n=decide (m<=n):=rfl
theorem cge(m n:Int):cm .geq m n=decide (m>=n):=rfl
theorem ce(m n:Int):cm .eql m n=decide (m=n):=by show (m==n)=_;by_cases h:m=n<;>simp[h]
theorem cn(m n:Int):cm .neq m n=decide (m≠n):=by show (m != n)=_;by_cases h:m=n<;>simp[h]
theorem addI{m n:Int}(h: -9223372036854775808<=m+n/\m+n<=9223372036854775807):ar .add .i64 m n=m+n:=wrap_i64 h
theorem subI{m n:Int}(h: -9223372036854775808<=m - n/\m - n<=9223372036854775807):ar .sub .i64 m n=m - n:=wrap_i64 h
theorem nxt{n:Nat}(h:n<=4611686018427387904):ar .add .i64 (n:Int) 1=((n+1:Nat):Int):=by rw[addI (by omega)];push_cast;rfl
theorem Bytes.tail{x:Int}{l:List Int}(h:Bytes (x::l)):Bytes l:=fun y u=>h y (by simp[u])
theorem Bytes.head{x:Int}{l:List Int}(h:Bytes (x::l)):0<=x/\x<=255:=h x (by simp)
def Ue:List Int->Int×Bool×List Int
 | []=>(0,false,[])
 |b::r=>(b,true,r)
theorem Rh(l:List Int)(hl:l.length<=1000000):eJ l=some (Ue l):=by
 unfold eJ;cases l with
 |nil=>rfl
 |cons b r=>
  have:¬((b::r).length:Int)=0:=by simp;omega
  rw[ce];simp only[this,aJ7,pF];have h:Sw.idx (b::r) 0=some b:=rfl;have u:Sw.sub (b::r) 1 ((b::r).length:Int)=some r:=by
   unfold Sw.sub;rw[aF2 (by simp;omega)];simp
  rw[h,u];rfl
def wF:Nat->Nat->Nat->List Int->Int×Bool×List Int
 | 0,_,_,l=>(0,false,l)
 |_+1,_,_,[]=>(0,false,[])
 |k+1,i,v,b::l=>if b<128 then (((v+b.toNat % 128*128 ^ i:Nat):Int),decide (v+b.toNat % 128*128 ^ i<=2147483647) && (decide (0<b) || decide (i=0)),l) else wF k (i+1) (v+b.toNat % 128*128 ^ i) l
theorem aL7:∀a:Fin 256,ar .and .u8 ((a.1:Nat):Int) 127=((a.1 % 128:Nat):Int):=by decide+kernel
theorem aK5{b:Int}(h:0<=b/\b<=255):ar .and .u8 b 127=((b.toNat % 128:Nat):Int):=by
 have:=aL7 ⟨b.toNat,by omega⟩;have e:((b.toNat:Nat):Int)=b:=by omega
 simpa[e] using this
theorem aK6(i:Nat):128 ^ i=2 ^ (7*i):=by rw[Nat.pow_mul]
theorem aL8{c i:Nat}(hi:i<=4)(hc:c<128):sh .shl .i64 (c:Int) ((7*i:Nat):Int)=((c*128 ^ i:Nat):Int):=by
 show IntKind.wrap .i64 ((c:Int)*2 ^ min ((7*i:Nat):Int).toNat (IntKind.bits .i64))=_;rw[aCk,show IntKind.bits .i64=64 from rfl,aLu (by omega),aK6];have h:2 ^ (7*i)<=2 ^ 28:=aOh (by decide) (by omega);have u:c*2 ^ (7*i)<=127*2 ^ 28:=aM2 (by omega) h;have e:(c:Int)*2 ^ (7*i)=((c*2 ^ (7*i):Nat):Int):=by push_cast;rfl
 rw[e,wrap_i64 (by omega)]
theorem aL9{a b:Nat}(ha:a<4611686018427387904)(hb:b<4611686018427387904):ar .or .i64 (a:Int) (b:Int)=((a ||| b:Nat):Int):=by
 have h:a ||| b<2 ^ 62:=aN9 (by simpa using ha) (by simpa using hb)
 show IntKind.wrap .i64 ((BitVec.ofInt 64 (a:Int) ||| BitVec.ofInt 64 (b:Int)).toNat:Int)=_;simp only[rC,BitVec.toNat_or,aMh];rw[aJm (a:=a) (by omega),aJm (a:=b) (by omega)];exact wrap_i64 (by omega)
theorem aK7{v c i:Nat}(hi:i<=4)(hc:c<128)(hv:v<128 ^ i):ar .or .i64 (v:Int) ((c*128 ^ i:Nat):Int)=((v+c*128 ^ i:Nat):Int):=by
 have h:128 ^ i<=128 ^ 4:=aOh (by decide) hi;have u:c*128 ^ i<=127*128 ^ 4:=aM2 (by omega) h;rw[aL9 (by omega) (by omega)];congr 1;rw[aK6] at*;have:=aOi hv c;rw[Nat.shiftLeft_eq] at this;rw[Nat.or_comm,<-this,aM8]
theorem aK8{v c i:Nat}(hc:c<128)(hv:v<128 ^ i):v+c*128 ^ i<128 ^ (i+1):=by
 rw[aOo];have:c*128 ^ i<=127*128 ^ i:=aLp _ (by omega);omega
theorem aJq(l:List Int)(hb:Bytes l)(hl:l.length<=1000000):fQ l=some (wF 5 0 0 l):=by
 unfold fQ;have M:∀(k i v:Nat) (l:List Int) (f:Nat),i+k=5->v<128 ^ i->Bytes l->l.length<=1000000->k<f->
   ∃e,loop (fun (h:Int×Int×(List Int))=>
  bif (cm .lss h.2.1 (35:Int)) then
   (eJ h.2.2).bind fun u=>
    bif (!u.2.1) then
     some (.done (.ret ((0:Int),false,u.2.2)))
    else
     (nn h.2.1).bind fun _=>
      bif (cm .lss u.1 (128:Int)) then
       (bif (cm .leq (ar .or .i64 h.1 (sh .shl .i64 (ar .and .u8 u.1 (127:Int)) h.2.1)) (2147483647:Int)) then
        bif (cm .gtr u.1 (0:Int)) then
         some true
        else
         some (cm .eql h.2.1 (0:Int))
       else
        some false).bind fun T=>
        some (.done (.ret ((ar .or .i64 h.1 (sh .shl .i64 (ar .and .u8 u.1 (127:Int)) h.2.1)),T,u.2.2)))
      else
       some (.next ((ar .or .i64 h.1 (sh .shl .i64 (ar .and .u8 u.1 (127:Int)) h.2.1)),(ar .add .i64 h.2.1 (7:Int)),u.2.2))
  else
   some (.done (.brk h.2.2))
  ) f ((v:Int),((7*i:Nat):Int),l)=some e/\out (fun (U:List Int)=>some ((0:Int),false,U)) e=some (wF k i v l):=by
  intro k
  induction k with
  |zero=>
   intro i v l f R I hb hl S;obtain⟨f,rfl⟩:∃f',f=f'+1:=⟨f - 1,by omega⟩
   have N:i=5:=by omega
   subst N;exact⟨.brk l,rfl,rfl⟩
  |succ k V=>
   intro i v l f R I hb hl S;obtain⟨f,rfl⟩:∃f',f=f'+1:=⟨f - 1,by omega⟩
   have O:cm .lss ((7*i:Nat):Int) 35=true:=by rw[cl];simp;omega
   have P:nn ((7*i:Nat):Int)=some ():=by unfold nn;rw[aF2 (by omega)]
   simp only[loop,O,aCj,Rh l hl,cM];cases l with
   |nil=>exact⟨.ret (0,false,[]),by simp[Ue],rfl⟩
   |cons b l=>
    have Q:=hb.head;have D:b.toNat % 128<128:=aM4 _ (by decide);simp only[Ue,aLr,pF,P,cM,aK5 Q,aL8 (by omega:i<=4) D,aK7 (by omega:i<=4) D I,cl,cle,cg,ce];by_cases A:b<128
    ·simp only[A,aMi,aCj];refine⟨.ret (((v+b.toNat % 128*128 ^ i:Nat):Int),decide (v+b.toNat % 128*128 ^ i<=2147483647) && (decide (0<b) || decide (i=0)),l),?_,?_⟩
     ·by_cases E:v+b.toNat % 128*128 ^ i<=2147483647
      ·have B:((v+b.toNat % 128*128 ^ i:Nat):Int)<=2147483647:=by omega
       by_cases F:b>0
       ·have G:0<b:=F;simp only[B,E,G,gt_iff_lt,aMi,aCj,cM,aOz,Bool.true_or]
       ·have G:¬0<b:=F;have H:(((7*i:Nat):Int)=0)↔i=0:=by omega
        simp only[B,E,F,G,H,aMi,aJ7,aCj,pF,cM,aOz,Bool.false_or]
      ·have B:¬((v+b.toNat % 128*128 ^ i:Nat):Int)<=2147483647:=by omega
       simp only[B,E,aJ7,pF,cM,Bool.false_and]
     ·simp only[out,wF,A,aKi]
    ·simp only[A,aJ7,pF];have H:ar .add .i64 ((7*i:Nat):Int) 7=((7*(i+1):Nat):Int):=by rw[addI (by omega)];push_cast;omega
     rw[H];obtain⟨e,K,C⟩:=V (i+1) (v+b.toNat % 128*128 ^ i) l f (by omega) (aK8 D I) hb.tail (by simp at hl;omega) (by omega);refine⟨e,K,?_⟩;rw[C];simp only[wF,A,aJ6]
 obtain⟨e,K,C⟩:=M 5 0 0 l fI rfl (by decide) hb hl (by unfold fI;omega);unfold lp;have L:=K;simp only[Nat.mul_zero] at L;rw[show ((0:Int),(0:Int),l)=(((0:Nat):Int),((0:Nat):Int),l) from rfl,L];cases e with
 |brk y=>exact C
 |ret z=>exact C
theorem Uf:∀(k i v:Nat) (l:List Int),(wF k i v l).2.2.length<=l.length
 | 0,_,_,l=>aDn _
 |_+1,_,_,[]=>aDn _
 |k+1,i,v,b::l=>by
  unfold wF;split
  ·simp
  ·exact aLi (Uf k _ _ l) (by simp)
theorem Zo:∀(k i v:Nat) (l r:List Int) (w:Int),i+k=5->v<128 ^ i->Bytes l->wF k i v l=(w,true,r)->
  ∃q:Nat,w=((v+q*128 ^ i:Nat):Int)/\v+q*128 ^ i<=2147483647/\l=vf (k - 1) q++r/\(0<i->0<q)
 | 0,_,_,_,_,_,_,_,_,h=>by simp[wF] at h
 |_+1,_,_,[],_,_,_,_,_,h=>by simp[wF] at h
 |k+1,i,v,b::l,r,w,P,K,B,h=>by
  have L:=B.head;unfold wF at h;split at h
  ·rename_i H;have C:b.toNat % 128=b.toNat:=aJm (by omega);simp only[aKq,aIb,aMr,aNb,C] at h;obtain⟨rfl,⟨u,z⟩,rfl⟩:=h;refine⟨b.toNat,rfl,u,?_,fun O=>by omega⟩;have e:((b.toNat:Nat):Int)=b:=by omega
   cases k with
   |zero=>simp[vf,e]
   |succ k=>simp only[aN2];unfold vf;rw[aF2 (by omega),e];rfl
  ·rename_i H;have D:b.toNat % 128<128:=aM4 _ (by decide);obtain⟨q,u,z,A,I⟩:=Zo k (i+1) (v+b.toNat % 128*128 ^ i) l r w (by omega) (aK8 D K) B.tail h;have M:0<k:=by
    cases k with
    |zero=>simp[wF] at h
    |succ k=>omega
   obtain⟨k,rfl⟩:∃k',k=k'+1:=⟨k - 1,by omega⟩
   have e:v+b.toNat % 128*128 ^ i+q*128 ^ (i+1)=v+(b.toNat % 128+128*q)*128 ^ i:=by rw[aOo,aKo];rw[aOl 128 q,Nat.mul_assoc q 128,aOl 128 (128 ^ i)];omega
   have N:=I (by omega);refine⟨b.toNat % 128+128*q,by rw[u,e],by rw[<-e];exact z,?_,fun _=>by omega⟩;simp only[aN2] at A ⊢;unfold vf;rw[aD0 (by omega),A];have E:(b.toNat % 128+128*q) % 128=b.toNat % 128:=by omega
   have F:(b.toNat % 128+128*q) / 128=q:=by omega
   rw[E,F];have G:((128+b.toNat % 128:Nat):Int)=b:=by omega
   rw[G];rfl
theorem Zp:∀(k i v q:Nat) (r:List Int),i+k=4->v+q*128 ^ i<=2147483647->(0<i->0<q)->wF (k+1) i v (vf k q++r)=(((v+q*128 ^ i:Nat):Int),true,r)
 | 0,i,v,q,r,C,z,u=>by
  have A:i=4:=by omega
  subst A;have h:q<128:=by omega
  have u:=u (by omega);have e:q % 128=q:=aJm h;simp only[vf,aKr,aKn,wF,aCk,e];rw[aF2 (by omega)];simp;omega
 |k+1,i,v,q,r,C,z,u=>by
  unfold vf;by_cases h:q<128
  ·have e:q % 128=q:=aJm h;simp only[h,aKi,aKr,aKn,wF,aCk,e];rw[aF2 (by omega)];simp;omega
  ·simp only[h,aJ6,aKr,wF,aCk];rw[aD0 (by omega)];have B:(128+q % 128) % 128=q % 128:=by omega
   have e:v+q % 128*128 ^ i+q / 128*128 ^ (i+1)=v+q*128 ^ i:=by
    rw[aOo];have:q*128 ^ i=(q % 128+128*(q / 128))*128 ^ i:=by rw[Nat.mod_add_div]
    rw[this,aKo,aOl 128 (q / 128),Nat.mul_assoc,aOl 128 (128 ^ i)];omega
   rw[B,Zp k (i+1) (v+q % 128*128 ^ i) (q / 128) r (by omega) (by rw[e];exact z) (fun _=>by omega),e]
def zP:Nat->List Int->List Int->Option (List Int×List Int)
 | 0,acc,l=>some (l,acc)
 |n+1,acc,l=>if (wF 5 0 0 l).2.1 then zP n (acc++[(wF 5 0 0 l).1]) (wF 5 0 0 l).2.2 else none
theorem Fp:∀(k i v:Nat) (l:List Int),Bytes l->Bytes (wF k i v l).2.2
 | 0,_,_,l,h=>h
 |_+1,_,_,[],h=>h
 |k+1,i,v,b::l,h=>by
  unfold wF;split
  ·exact h.tail
  ·exact Fp k _ _ l h.tail
theorem Mq:∀(n:Nat) (acc l r acc':List Int),Bytes l->zP n acc l=some (r,acc')->∃ns,acc'=acc++ns/\ns.length=n/\(∀x∈ns,0<=x/\x<=2147483647)/\l=vs ns++r
 | 0,acc,l,r,acc',_,h=>by
  simp only[zP,aD2,aKq] at h;obtain⟨rfl,rfl⟩:=h;exact⟨[],by simp,rfl,fun x u=>by simp at u,rfl⟩
 |n+1,acc,l,r,acc',A,h=>by
  unfold zP at h;split at h
  ·rename_i B;obtain⟨ns,C,D,E,F⟩:=Mq n _ _ r acc' (Fp _ _ _ _ A) h;obtain⟨q,z,G,H,_⟩:=Zo 5 0 0 l (wF 5 0 0 l).2.2 (wF 5 0 0 l).1 rfl (by decide) A (by rw[<-B]);simp only[Nat.pow_zero,Nat.mul_one,aNd] at z G;refine⟨(q:Int)::ns,by rw[C,z];simp,by simp[D],fun x u=>?_,?_⟩
   ·rcases aF3.1 u with rfl | u
    ·omega
    ·exact E x u
   ·have e:vs ((q:Int)::ns)=vf 4 q++vs ns:=by simp[vs]
    rw[H,F,e,aE2]
  ·cases h
theorem Ug:∀(ns acc r:List Int),(∀x∈ns,0<=x/\x<=2147483647)->zP ns.length acc (vs ns++r)=some (r,acc++ns)
 | [],acc,r,_=>by simp[zP,vs]
 |x::ns,acc,r,h=>by
  have A:=h x (by simp);have e:vs (x::ns)++r=vf 4 x.toNat++(vs ns++r):=by simp[vs]
  have g:=Zp 4 0 0 x.toNat (vs ns++r) rfl (by omega) (fun h=>by omega);simp only[Nat.pow_zero,Nat.mul_one,aNd] at g;have u:((x.toNat:Nat):Int)=x:=by omega
  rw[e,aIa,zP,g];simp only[aKi,u];rw[Ug ns _ r (fun y z=>h y (by simp[z]))];simp
theorem Jb{c l:List Int}(hc:c.length=8):Sw.chunks 8 (c++l)=c::Sw.chunks 8 l:=by
 unfold Sw.chunks;have e:((c++l).length+8 - 1) / 8=(l.length+8 - 1) / 8+1:=by rw[sM,hc];omega
 rw[e,List.range_succ_eq_map,aIx,aO4];congr 1
 ·rw[Nat.zero_mul,List.drop_zero,List.take_append_of_le_length (by omega),aLs (by omega)]
 ·apply List.map_congr_left;intro k _;simp only[Function.comp_apply,Nat.succ_eq_add_one];rw[show (k+1)*8=c.length+k*8 by omega,aOd];congr 1;simp
theorem Jc:∀(bs:List aQ),(∀b∈bs,b.length=8)->Sw.chunks 8 bs.flatten=bs
 | [],_=>rfl
 |b::bs,h=>by rw[aNa,Jb (h b (by simp)),Jc bs (fun c u=>h c (by simp[u]))]
theorem Cx:∀(m:Nat) (l:List Int),l.length=8*m->(Sw.chunks 8 l).flatten=l/\(∀b∈Sw.chunks 8 l,b.length=8)/\(Sw.chunks 8 l).length=m
 | 0,l,h=>by
  have:l=[]:=List.length_eq_zero_iff.1 (by omega);subst this;exact⟨rfl,fun b u=>by simp[Sw.chunks] at u,rfl⟩
 |m+1,l,h=>by
  have e:l=l.take 8++l.drop 8:=(aId 8 l).symm;have z:(l.take 8).length=8:=by simp;omega
  obtain⟨A,B,C⟩:=Cx m (l.drop 8) (by simp;omega);rw[e,Jb z];refine⟨by rw[aNa,A],fun b u=>?_,by simp[C]⟩;rcases aF3.1 u with rfl | u
  ·exact z
  ·exact B b u
theorem aE3{l:List Int}{bs:List aQ}(h:bs.flatten=l)(hb:Bytes l):∀b∈bs,Bytes b:=fun b u x z=>hb x (by rw[<-h];exact List.mem_flatten.2 ⟨b,u,z⟩)
def Ij:List Int->Option eR
 |b0::b1::r=>match zP (b0.toNat % 16) [] r with
  |some (rest,h)=>if b1>32\/h.length>12\/(rest.length:Int)≠8*b1 then none else some (((b0.toNat / 16:Nat):Int),h,Sw.chunks 8 rest)
  |none=>none
 |_=>none
theorem Zq{n:Nat}(h:n<256):IntKind.wrap .u8 (n:Int)=n:=by rw[Cw];omega
theorem Ri{f:eR}(g:Good f):Gz f=[((16*f.1.toNat+f.2.1.length:Nat):Int),(f.2.2.length:Int)]:=by
 have h:=g.s0;have u:=g.s1;have z:=g.ns;have A:=g.bs;unfold Gz;have e:ar .add .i64 (ar .mul .i64 16 f.1) (f.2.1.length:Int)=((16*f.1.toNat+f.2.1.length:Nat):Int):=by
  have:ar .mul .i64 16 f.1=16*f.1:=wrap_i64 (by omega);rw[this,addI (by omega)];omega
 rw[e,Zq (by omega),Zq (by omega)]
theorem aBs{b:List Int}{f:eR}(hb:Bytes b)(h:Ij b=some f):Good f/\dH f=0/\body f=b:=by
 match b,h with
 |b0::b1::r,h=>
  have P:=hb.head;have Q:=hb.tail.head;have z:=hb.tail.tail;simp only[Ij] at h;cases hn:zP (b0.toNat % 16) [] r with
  |none=>rw[hn] at h;cases h
  |some p=>
   obtain⟨rest,K⟩:=p;rw[hn] at h;simp only at h;split at h
   ·cases h
   ·rename_i R;simp only[aD2] at h;subst h;obtain⟨S,B,L,C,D⟩:=Mq _ _ _ _ _ z hn;simp only[aKn] at B;subst B;obtain⟨E,M,N⟩:=Cx b1.toNat rest (by omega);have F:Bytes rest:=fun x u=>z x (by rw[D];simp[u]);have A:Good (((b0.toNat / 16:Nat):Int),K,Sw.chunks 8 rest):=⟨by simp only;omega,by simp only;omega,by simp only;omega,by simp only;omega,C,fun b hb=>⟨M b hb,aE3 E F b hb⟩⟩
    refine⟨A,?_,?_⟩
    ·unfold dH;rw[aD0 (by simp only;omega),aD0 (by simp only;omega),aD0];intro I;obtain⟨x,u,O⟩:=aNn.1 I;have:=C x u;simp[vS] at O;omega
    ·unfold body;rw[Ri A];simp only[E,N,L,aKr,aKn];rw[D];have G:((16*(((b0.toNat / 16:Nat):Int)).toNat+b0.toNat % 16:Nat):Int)=b0:=by rw[aCk];omega
     have H:((b1.toNat:Nat):Int)=b1:=by omega
     rw[G,H]
theorem Uh{f:eR}(g:Good f):Ij (body f)=some f:=by
 have B:=g.s0;have C:=g.s1;have D:=g.ns;have E:=g.bs;unfold body;rw[Ri g];simp only[aKr,aKn,Ij,aCk];have h:(16*f.1.toNat+f.2.1.length) % 16=f.2.1.length:=by omega
 have u:(16*f.1.toNat+f.2.1.length) / 16=f.1.toNat:=by omega
 rw[h,u,Ug _ _ _ g.num];simp only[aKn];have F:=(flat_bytes g.blk).2;rw[aD0 (by omega),Jc _ (fun b A=>(g.blk b A).1)];have z:((f.1.toNat:Nat):Int)=f.1:=by omega
 rw[z]
end Go.PlFr
namespace Go.PlFr
open Go.Pl
open Go Go.Sw Go.Mo
def eP(a:List Int):Option eR:=
 if a.length<6 then none else if a.drop (a.length - 4)=sum4 (4294967295 - zO (nat (a.take (a.length - 4)))) then Ij (a.take (a.length - 4)) else none
theorem aJr{n c:Nat}(hc:c<=32):sh .shr .u32 (n:Int) (c:Int)=((n / 2 ^ c:Nat):Int):=by
 show Int.fdiv _ _=_;rw[aCk,show IntKind.bits .u32=32 from rfl,aLu hc,aKt _ (aOk (aO6 (by decide)))];push_cast;rfl
theorem aHl{S:Nat}(h:S<4294967296): [(IntKind.wrap .u8 (sh .shr .u32 (S:Int) (24:Int))),(IntKind.wrap .u8 (sh .shr .u32 (S:Int) (16:Int))),(IntKind.wrap .u8 (sh .shr .u32 (S:Int) (8:Int))),(IntKind.wrap .u8 (S:Int))]=sum4 S:=by
 rw[show (24:Int)=((24:Nat):Int) from rfl,show (16:Int)=((16:Nat):Int) from rfl,show (8:Int)=((8:Nat):Int) from rfl,aJr (by decide),aJr (by decide),aJr (by decide),Cw,Cw,Cw,Cw];unfold sum4;have e:S / 2 ^ 24 % 256=S / 16777216:=by omega
 rw[e]
theorem aK9:∀a:Fin 256,ar .and .u8 ((a.1:Nat):Int) 15=((a.1 % 16:Nat):Int):=by decide+kernel
theorem aJs{b:Int}(h:0<=b/\b<=255):ar .and .u8 b 15=((b.toNat % 16:Nat):Int):=by
 have:=aK9 ⟨b.toNat,by omega⟩;have e:((b.toNat:Nat):Int)=b:=by omega
 simpa[e] using this
theorem aMa:∀a:Fin 256,sh .shr .u8 ((a.1:Nat):Int) 4=((a.1 / 16:Nat):Int):=by decide+kernel
theorem aLa{b:Int}(h:0<=b/\b<=255):sh .shr .u8 b 4=((b.toNat / 16:Nat):Int):=by
 have:=aMa ⟨b.toNat,by omega⟩;have e:((b.toNat:Nat):Int)=b:=by omega
 simpa[e] using this
theorem aMb{n:Nat}(h:n<200):ar .add .u8 (n:Int) 1=((n+1:Nat):Int):=by
 show IntKind.wrap .u8 ((n:Int)+1)=_;have:(n:Int)+1=((n+1:Nat):Int):=by push_cast;rfl
 rw[this,Zq (by omega)]
theorem Ph{z:eR×Option Int}(N:Nat)(hN:N<=15):∀(n j:Nat) (l acc:List Int) (f:Nat),j+n=N->Bytes l->l.length<=1000000->acc.length+n<=1000->n<f->
  loop (β:=Ex ((List Int)×(List Int)) (eR×Option Int)) (fun (s19:Int×(List Int)×(List Int))=>
                bif (cm .lss s19.1 (N:Int)) then
                 (fQ s19.2.1).bind fun v27=>
                  bif (!v27.2.1) then
                   some (.done (.ret z))
                  else
                   (Sw.app s19.2.2 ([v27.1]:(List Int))).bind fun v29=>
                    some (.next ((ar .add .u8 s19.1 (1:Int)),v27.2.2,v29))
                else
                 some (.done (.brk (s19.2.1,s19.2.2)))
                ) f ((j:Int),l,acc)=some (match zP n acc l with | some p=> .brk p | none=> .ret z)
 | 0,j,l,acc,f,B,u,A,C,D=>by
  obtain⟨f,rfl⟩:∃f',f=f'+1:=⟨f - 1,by omega⟩
  have:cm .lss (j:Int) (N:Int)=false:=by rw[cl];simp;omega
  simp only[loop,this,pF,zP]
 |n+1,j,l,acc,f,B,u,A,C,D=>by
  obtain⟨f,rfl⟩:∃f',f=f'+1:=⟨f - 1,by omega⟩
  have:cm .lss (j:Int) (N:Int)=true:=by rw[cl];simp;omega
  simp only[loop,this,aCj,aJq l u A,cM,zP];by_cases h:(wF 5 0 0 l).2.1=true
  ·simp only[h,aLr,pF,aKi];rw[app_small _ _ (by simp;omega),cM,aMb (by omega)];exact Ph N hN n (j+1) _ _ f (by omega) (Fp _ _ _ _ u) (aLi (Uf _ _ _ _) A) (by simp;omega) (by omega)
  ·simp only[aLv] at h;simp only[h,aMp,aCj,aIk,aJ6]
theorem Zs:∀(its acc:List aQ),(∀i∈its,i.length=8)->acc.length+its.length<=1000000->
  rng (δ:=Empty) (fun (z38:(List Int)) (s45:(List aQ))=>
    (Sw.arrOf 8 z38).bind fun z46=>
     (Sw.app s45 ([z46]:(List aQ))).bind fun v47=>
      some (.next v47)
    ) its acc=some (.brk (acc++its))
 | [],acc,_,_=>by simp[rng]
 |i::is,acc,h,u=>by
  have A:=h i (by simp);have e:Sw.arrOf 8 i=some i:=by unfold Sw.arrOf;rw[aF2 (by omega),aLs (by omega)]
  simp only[rng,e,cM];rw[app_small _ _ (by simp at u ⊢;omega)];simp only[cM];rw[Zs is _ (fun j z=>h j (by simp[z])) (by simp at u ⊢;omega)];simp
theorem rF(a:List Int)(hb:Bytes a)(hl:a.length<=10000):eX a=some (match eP a with | some f=>(f,none) | none=>((0,[],[]),some 3)):=by
 unfold eX eP;rw[cl];by_cases G:a.length<6
 ·have:(a.length:Int)<6:=by omega
  simp[G,this]
 have O:¬(a.length:Int)<6:=by omega
 simp only[G,O,aJ7,pF,aJ6];generalize hL:a.length - 4=L;have P:ar .sub .i64 (a.length:Int) 4=(L:Int):=by rw[subI (by omega)];omega
 have Q:Sw.sub a 0 (L:Int)=some (a.take L):=by unfold Sw.sub;rw[aF2 (by omega)];simp
 have B:(a.take L).length=L:=by simp;omega
 have R:Sw.sub a (L:Int) (a.length:Int)=some (a.drop L):=by unfold Sw.sub;rw[aF2 (by omega)];simp
 have ad:(a.drop L).length=4:=by simp;omega
 have S:Sw.arrOf 4 (a.drop L)=some (a.drop L):=by unfold Sw.arrOf;rw[aF2 (by omega),aLs (by omega)]
 have C:Bytes (a.take L):=fun x hx=>hb x (aMx hx);have T:=aE1 (a.take L) C (by omega);rw[P,Q,cM,T,cM,B,R,cM,S,cM,aHl (by omega)];by_cases H:a.drop L=sum4 (4294967295 - zO (nat (a.take L)))
 ·simp only[H,aMi,aLr,pF,aKi];generalize hp:a.take L=p at*
  match p,B with
  | [],h=>simp at h;omega
  | [_],h=>simp at h;omega
  |b0::b1::r,B=>
   have I:=C.head;have ae:=C.tail.head;have K:=C.tail.tail;have af:r.length<=10000:=by simp at B;omega
   rw[Rh _ (by simp;omega),cM];simp only[Ue];rw[Rh _ (by simp;omega),cM];simp only[Ue,aJs I,aLa I,Ij];have U:=Ph (z:=((0,[],[]),some 3)) (b0.toNat % 16) (by omega) (b0.toNat % 16) 0 r [] fI (by omega) K (by omega) (by simp;omega) (by unfold fI;omega);unfold lp;rw[show ((0:Int),r,([]:List Int))=(((0:Nat):Int),r,([]:List Int)) from rfl,U];cases hn:zP (b0.toNat % 16) [] r with
   |none=>rfl
   |some q=>
    obtain⟨u,E⟩:=q;obtain⟨ai,N,h2,h3,h4⟩:=Mq _ _ _ _ _ K hn;simp only[aKn] at N;subst N;have ah:u.length<=r.length:=by rw[h4];simp
    have V:ar .mul .i64 b1 8=8*b1:=by show IntKind.wrap .i64 _=_;rw[wrap_i64 (by omega)];omega
    simp only[cg,cn,V];by_cases D:b1>32
    ·simp[D]
    by_cases F:E.length>12
    ·have A:(E.length:Int)>12:=by omega
     simp[D,F,A]
    by_cases M:(u.length:Int)≠8*b1
    ·have A:¬(E.length:Int)>12:=by omega
     simp[D,F,A,M]
    have A:¬(E.length:Int)>12:=by omega
    have X:(u.length:Int)=8*b1:=aNf.1 M;obtain⟨g1,g2,g3⟩:=Cx b1.toNat u (by omega);have aa:jJ u 8=some (u,8):=rfl;have ab:small u=some ():=by unfold small;rw[aF2 (by omega)]
    have ac:chkn 8=some ():=by decide
    simp only[D,F,A,X,ne_eq,aO8,aJ7,pF,cM,aO9,aJ6,aa,ab,ac,rg];rw[show Int.toNat 8=8 from rfl,Zs _ _ g2 (by simp;omega)];simp
 ·simp only[H,aJ7,aMp,aCj,aJ6]
theorem Fq{a:List Int}{f:eR}(hb:Bytes a)(h:eP a=some f):Good f/\dH f=0/\bC f=a:=by
 unfold eP at h;split at h
 ·cases h
 ·split at h
  ·rename_i D u;obtain⟨A,B,C⟩:=aBs (fun x z=>hb x (aMx z)) h;refine⟨A,B,?_⟩;unfold bC;rw[C,<-u,aId]
  ·cases h
theorem lI{f:eR}(g:Good f):eP (bC f)=some f:=by
 have A:2<=(body f).length:=by unfold body;rw[Ri g];simp
 have h:(bC f).length=(body f).length+4:=by simp[bC,sum4]
 have u:(bC f).take ((bC f).length - 4)=body f:=by rw[h,aN2];unfold bC;simp
 have z:(bC f).drop ((bC f).length - 4)=sum4 (4294967295 - zO (nat (body f))):=by rw[h,aN2];unfold bC;simp
 unfold eP;rw[aD0 (by omega),u,z,aF2 rfl,Uh g]
end Go.PlFr
namespace Go.PlFr
open Go.Pl
open Go Go.Sw Go.Mo
theorem loop_next{α β:Type}{step:α->Option (Step α β)}{x y:α}{f:Nat}(h:step x=some (.next y)):loop step (f+1) x=loop step f y:=by simp only[loop,h]
theorem loop_done{α β:Type}{step:α->Option (Step α β)}{x:α}{b:β}{f:Nat}(h:step x=some (.done b)):loop step (f+1) x=some b:=by simp only[loop,h]
end Go.PlFr
namespace Go.PlFr
open Go.Pl
open Go Go.Sw Go.Mo
end Go.PlFr
namespace Go.PlFr
open Go.Pl
open Go Go.Sw Go.Mo
theorem Xg{S:Nat}(h:S<4294967296):Bytes (sum4 S):=fun x u=>by
 simp only[sum4,aF3,aM1,aO3] at u;rcases u with rfl | rfl | rfl | rfl<;>omega
theorem Au{f:eR}(g:Good f):Bytes (bC f):=fun x h=>by
 unfold bC at h;rcases aI9.1 h with h | h
 ·exact(qH g).1 x h
 ·exact Xg (by omega) x h
end Go.PlFr
namespace Go.PlFr
open Go.Pl
open Go Go.Sw Go.Mo
theorem aE4(x:Int):oQ x=some (vS x):=by
 unfold oQ vS;by_cases h:x<0
 ·have:cm .lss x 0=true:=by simp[cm,h]
  simp[this,h]
 ·have:cm .lss x 0=false:=by simp[cm];omega
  simp[this,h,cm]
theorem Rj(l:List Int)(h:l.length<=1000000):cI l=some (l.any vS):=by
 unfold cI dK;rw[show (0:Int)=((0:Nat):Int) from rfl,An (l:=l) (fun i (_:Unit)=>(i:Int)) () (fun i x _=>if vS x then .done (.ret (i:Int)) else .next ()) (fun _=> .brk ()) (by unfold fI;omega)]
 ·rw[Ua (fun i=>(i:Int)),Ub];cases l.findIdx? vS<;>simp[out,cm]
 ·rintro u x z acc rfl;simp only[oC,aCj,lY,cM,aE4,inc (n:=u.length) (m:=1000000) (by simp at h;omega) (by omega)];cases vS x<;>simp[Hl]
 ·intro _;simp[dC]
theorem number_is(a b:Int):pH [a,b]=some (!(vS a || vS b)):=by
 unfold pH;rw[Rj _ (by simp)];simp
theorem bad_no{x:Int}:vS x=false↔0<=x/\x<=2147483647:=by unfold vS;simp
theorem aJt{α A β γ:Type}{step:α->Option (Step α (Ex β γ))}{l:List A}{k:β->Option γ}(st:Nat->α)(z:A->Option γ)(y:β)(hf:l.length<fI)
  (hs:∀pre x rest,l=pre++x::rest->step (st pre.length)=some (match z x with | some v=> .done (.ret v) | none=> .next (st (pre.length+1)))) (he:step (st l.length)=some (.done (.brk y))):
  lp step (st 0) k=(l.findSome? z).elim (k y) some:=by
 have u:∀(rest pre:List A) (f:Nat),l=pre++rest->rest.length<f->loop step f (st pre.length)=some (match rest.findSome? z with | some v=> .ret v | none=> .brk y):=by
  intro rest
  induction rest with
  |nil=>
   intro pre f h hf;obtain⟨f,rfl⟩:∃f',f=f'+1:=⟨f - 1,by simp at hf;omega⟩
   rw[aKc] at h;rw[<-h];simp[loop,he]
  |cons x rest B=>
   intro pre f h hf;obtain⟨f,rfl⟩:∃f',f=f'+1:=⟨f - 1,by simp at hf;omega⟩
   simp only[loop,hs pre x rest h,List.findSome?_cons];cases hz:z x with
   |some v=>simp
   |none=>
    have:=B (pre++[x]) f (by rw[h];simp) (by simp at hf;omega);simpa using this
 have:=u l [] fI rfl hf;unfold lp;simp only[aKb] at this;rw[this];cases l.findSome? z<;>rfl
def cZ(f:eR):Int:=if dH f=0 then (if 9<f.2.1.length then 2 else 0) else dH f
theorem Zt(f:eR):sQ f=some (if cZ f=0 then none else some (cZ f)):=by
 unfold sQ cZ;rw[Ek,cM,cg];by_cases h:dH f=0
 ·simp only[h,aKi,aA8,pF];by_cases u:9<f.2.1.length
  ·have:(f.2.1.length:Int)>9:=by omega
   simp[u,this]
  ·have:¬(f.2.1.length:Int)>9:=by omega
   simp[u,this]
 ·simp[h]
def tN(l:List eR):Option Int:=l.findSome? fun f=>if cZ f=0 then none else some (cZ f)
abbrev tP:=Int×Int×List eR
def iU(s:tP):Int:=if vS s.1 || vS s.2.1 then 1 else if 64<s.2.2.length then 2 else (tN s.2.2).getD 0
theorem Ui{l:List eR}{e:Int}(h:tN l=some e):e≠0:=by
 obtain⟨f,_,u⟩:=List.exists_of_findSome?_eq_some h;split at u
 ·cases u
 ·cases u;assumption
theorem check_is(s:tP):nZ s=some (if iU s=0 then none else some (iU s)):=by
 unfold nZ iU;rw[number_is,cM];by_cases u:(vS s.1 || vS s.2.1)=true
 ·simp[u]
 ·simp only[aLv] at u;simp only[u,aMp,aLr,pF,aIk,aJ6,cg];by_cases z:64<s.2.2.length
  ·have:(s.2.2.length:Int)>64:=by omega
   simp[z,this]
  ·have:¬(s.2.2.length:Int)>64:=by omega
   simp only[z,this,aJ7,pF,aJ6];rw[show (0:Int)=(fun (i:Nat)=>(i:Int)) 0 from rfl];rw[aJt (l:=s.2.2) (fun (i:Nat)=>(i:Int)) (fun f=>if cZ f=0 then none else some (some (cZ f))) () (by unfold fI;omega)]
   ·have e:s.2.2.findSome? (fun f=>if cZ f=0 then none else some (some (cZ f)))=(tN s.2.2).map some:=by
     unfold tN
     induction s.2.2 with
     |nil=>rfl
     |cons f l B=>simp only[List.findSome?_cons];by_cases h:cZ f=0<;>simp[h,B]
    rw[e];cases hf:tN s.2.2 with
    |none=>simp
    |some e=>have:=Ui hf;simp[this]
   ·rintro C x D h;rw[h];simp only[oC,aCj,lY,cM,Zt];rw[nxt (by have:=congrArg List.length h;simp at this;omega)];by_cases A:cZ x=0<;>simp[A]
   ·simp[dC]
def Uj(f:eR):Prop:=f.2.1.length<=1000/\f.2.2.length<=1000
theorem Uk{f:eR}(h:cZ f=0):Uj f:=by
 unfold cZ at h;split at h
 ·rename_i u;unfold dH at u;unfold Uj;split at u
  ·simp at u
  ·split at u
   ·simp at u
   ·omega
 ·exact absurd h (by assumption)
theorem Jd{s:tP}(h:iU s=0):(0<=s.1/\s.1<=2147483647)/\(0<=s.2.1/\s.2.1<=2147483647)/\s.2.2.length<=64/\∀f∈s.2.2,Uj f:=by
 unfold iU at h;split at h
 ·simp at h
 ·rename_i u;simp only[aLv,Bool.or_eq_false_iff] at u;split at h
  ·simp at h
  ·rename_i C;refine⟨bad_no.1 u.1,bad_no.1 u.2,by omega,fun f B=>Uk ?_⟩;have A:tN s.2.2=none:=by
    cases hf2:tN s.2.2 with
    |none=>rfl
    |some e=>rw[hf2] at h;exact absurd h (Ui hf2)
   have:=List.findSome?_eq_none_iff.1 A f B;by_cases z:cZ f=0
   ·exact z
   ·simp[z] at this
theorem Ul(l:List eR)(hl:l.length<=64)(h:∀f∈l,Uj f):qX l=some l:=by
 unfold qX;rw[show ((0:Int),([]:List eR))=(fun (i:Nat) (acc:List eR)=>((i:Int),acc)) 0 [] from rfl];rw[lp_inv (l:=l) (fun (i:Nat) (acc:List eR)=>((i:Int),acc)) (fun i acc=>acc.length=i) [] (fun _ f acc=>acc++[f]) id (by unfold fI;omega) rfl]
 ·have:∀(l:List eR) (i:Nat) (acc:List eR),(l.zipIdx i).foldl (fun acc x=>acc++[x.1]) acc=acc++l:=by
   intro l
   induction l with
   |nil=>intro i acc;simp
   |cons x l G=>intro i acc;rw[aMt,aKa,G];simp
  rw[this];rfl
 ·intro u x A acc z F;have B:=h x (by rw[z];simp);have H:u.length<64:=by have:=congrArg List.length z;simp at this;omega
  have C:cm .lss (u.length:Int) (l.length:Int)=true:=by rw[z];exact oC u x A
  have D:Sw.idx l (u.length:Int)=some x:=by rw[z];exact lY u x A
  have E:lW x=some x:=by
   unfold lW kO aP;unfold Uj at B;rw[app_small _ _ (by simp;omega),app_small _ _ (by simp;omega)];rfl
  simp only[C,D,E,aCj,cM];rw[app_small _ _ (by simp;omega),nxt (by omega)];exact⟨rfl,by simp[F]⟩
 ·intro acc _;simp only[dC,pF];rfl
end Go.PlFr
namespace Go.PlFr
open Go.Pl
open Go Go.Sw Go.Mo
theorem sub_drop{α:Type}(l:List α)(n:Nat)(h:n<=l.length):Sw.sub l (n:Int) (l.length:Int)=some (l.drop n):=by
 unfold Sw.sub;rw[aF2 (by omega)];simp
theorem Um{a c:Int}(h1:0<=a/\a<=2147483647)(h2:0<=c/\c<=2147483647):dH ((0:Int),[a,c],([]:List aQ))=0/\Good ((0:Int),[a,c],([]:List aQ)):=by
 have e:dH ((0:Int),[a,c],([]:List aQ))=0:=by
  unfold dH;simp[bad_no.2 h1,bad_no.2 h2]
 exact⟨e,rE e (fun b h=>by simp at h)⟩
end Go.PlFr
namespace Go.PlFr
open Go.Pl
open Go Go.Sw Go.Mo
def Bg{A B:Type}(g:Nat->A->B->Option B):Nat->B->List A->Option B
 |_,acc,[]=>some acc
 |i,acc,x::l=>(g i x acc).bind fun h=>Bg g (i+1) h l
theorem aJu{α A B β γ:Type}{step:α->Option (Step α (Ex β γ))}{l:List A}{k:β->Option γ}(st:Nat->B->α)(I:Nat->B->Prop)(acc0:B)(g:Nat->A->B->Option B)(ex:Ex β γ)(fin:B->β)(hf:l.length<fI)(h0:I 0 acc0)
  (hs:∀pre x rest acc,l=pre++x::rest->I pre.length acc->step (st pre.length acc)=some (match g pre.length x acc with | some acc'=> .next (st (pre.length+1) acc') | none=> .done ex)/\∀acc',g pre.length x acc=some acc'->I (pre.length+1) acc')
  (he:∀acc,I l.length acc->step (st l.length acc)=some (.done (.brk (fin acc)))):
  lp step (st 0 acc0) k=(Bg g 0 acc0 l).elim (out k ex) (fun acc=>k (fin acc))/\∀acc,Bg g 0 acc0 l=some acc->I l.length acc:=by
 have E:∀(rest pre:List A) (f:Nat) (acc:B),l=pre++rest->rest.length<f->I pre.length acc->loop step f (st pre.length acc)=some ((Bg g pre.length acc rest).elim ex (fun acc=> .brk (fin acc)))/\∀acc',Bg g pre.length acc rest=some acc'->I l.length acc':=by
  intro rest
  induction rest with
  |nil=>
   intro pre f acc u hf z;obtain⟨f,rfl⟩:∃f',f=f'+1:=⟨f - 1,by simp at hf;omega⟩
   rw[aKc] at u;rw[<-u] at z ⊢;exact⟨by simp[loop,he acc z,Bg],fun acc' h=>by simp only[Bg,aD2] at h;rw[<-h];exact z⟩
  |cons x rest F=>
   intro pre f acc u hf z;obtain⟨f,rfl⟩:∃f',f=f'+1:=⟨f - 1,by simp at hf;omega⟩
   obtain⟨C,D⟩:=hs pre x rest acc u z;simp only[loop,C,Bg];cases hg:g pre.length x acc with
   |none=>exact⟨by simp,fun acc' h=>by simp at h⟩
   |some acc'=>
    have:=F (pre++[x]) f acc' (by rw[u];simp) (by simp at hf;omega) (by simpa using D acc' hg);simpa using this
 obtain⟨C,D⟩:=E l [] fI acc0 rfl hf h0;refine⟨?_,D⟩;unfold lp;simp only[aKb] at C;rw[C];cases Bg g 0 acc0 l with
 |none=>cases ex<;>rfl
 |some _=>rfl
def dataF(s:tP)(i:Nat)(f:eR):eR:=(1,[s.1,s.2.1+(i:Int),f.1]++f.2.1,f.2.2)
def Pi(s:tP)(i:Nat)(f:eR)(acc:List (List Int)):Option (List (List Int)):=if s.2.1+(i:Int)>2147483647 then none else some (acc++[bC (dataF s i f)])
theorem load_frame{f:eR}(h:cZ f=0):dH f=0/\f.2.1.length<=9:=by
 unfold cZ at h;split at h
 ·rename_i u;refine⟨u,?_⟩;split at h
  ·simp at h
  ·omega
 ·exact absurd h (by assumption)
theorem data_good{s:tP}{i:Nat}{f:eR}(h1:0<=s.1/\s.1<=2147483647)(h2:0<=s.2.1)(hi:s.2.1+(i:Int)<=2147483647)(hf:cZ f=0)(hb:∀b∈f.2.2,b.length=8/\Bytes b):dH (dataF s i f)=0/\Good (dataF s i f):=by
 obtain⟨E,G⟩:=load_frame hf;have g:=rE E hb;have e:dH (dataF s i f)=0:=by
  have h:f.2.1.any vS=false:=by
   rw[aOv];intro n D;have:=bad_no.2 (g.num n D);simp[this]
  have u:=bad_no.2 h1;have z:vS (s.2.1+(i:Int))=false:=bad_no.2 ⟨by omega,hi⟩;have A:vS f.1=false:=bad_no.2 ⟨g.s0,by have:=g.s1;omega⟩;have F:=g.bs;unfold dH dataF;have B:¬((1:Int)<0\/(1:Int)>15):=by omega
  have C:¬(([s.1,s.2.1+(i:Int),f.1]++f.2.1).length>12\/f.2.2.length>32):=by simp;omega
  simp only[B,C,aJ6];simp[u,z,A,h]
 exact⟨e,rE e hb⟩
def QOk(s:tP):Prop:=∀f∈s.2.2,cZ f=0/\∀b∈f.2.2,b.length=8/\Bytes b
def Rx(s:tP):List eR:=s.2.2.take (min s.2.2.length 4)
theorem aJv{s:tP}{pre rest:List eR}{x:eR}(h:Rx s=pre++x::rest):pre.length<min s.2.2.length 4/\s.2.2[pre.length]? =some x/\x∈s.2.2:=by
 have z:pre.length<min s.2.2.length 4:=by have:=congrArg List.length h;simp[Rx] at this;omega
 have u:(Rx s)[pre.length]? =some x:=by rw[h];simp
 unfold Rx at u;rw[List.getElem?_take,aF2 z] at u;exact⟨z,u,aL3 u⟩
theorem aHm(s:tP):(Rx s).length=min s.2.2.length 4:=by simp[Rx]
theorem Zu(s:tP)(h0:iU s=0)(hq:QOk s):nW s=(Bg (Pi s) 0 [] (Rx s)).elim (some ([],some 1)) (fun acc=>some (acc,none))/\
  ∀acc,Bg (Pi s) 0 [] (Rx s)=some acc->acc.length=(Rx s).length/\∀x∈acc,x.length<=1000000:=by
 obtain⟨O,P,S,T⟩:=Jd h0;unfold nW;rw[check_is,aF2 h0,cM];have F:Sw.sub s.2.2 (0:Int) (min (s.2.2.length:Int) (4:Int))=some (Rx s):=by
  unfold Sw.sub Rx;rw[aF2 (by omega)];simp;omega
 rw[F];simp only[aA8,pF,cM];refine aJu (l:=Rx s) (fun (i:Nat) (acc:List (List Int))=>((i:Int),acc)) (fun i acc=>acc.length=i/\∀x∈acc,x.length<=1000000) [] (Pi s) (.ret ([],some 1)) id (by rw[aHm];unfold fI;omega) ⟨rfl,fun x B=>by simp at B⟩ ?_ ?_
 ·intro u x C acc h D;obtain⟨U,V,A⟩:=aJv h;have G:cm .lss (u.length:Int) ((Rx s).length:Int)=true:=by rw[h];exact oC u x C
  have H:Sw.idx (Rx s) (u.length:Int)=some x:=by rw[h];exact lY u x C
  have I:ar .add .i64 s.2.1 (u.length:Int)=s.2.1+(u.length:Int):=addI (by omega);simp only[G,H,I,aCj,cM,cg,Pi];by_cases c:s.2.1+(u.length:Int)>2147483647
  ·simp[c]
  ·obtain⟨Q,E⟩:=data_good (i:=u.length) O P.1 (by omega) (hq x A).1 (hq x A).2;have B:=load_frame (hq x A).1;have K:Sw.app ([s.1,s.2.1+(u.length:Int),x.1]:List Int) x.2.1=some ([s.1,s.2.1+(u.length:Int),x.1]++x.2.1):=app_small _ _ (by simp;omega);have L:lV ((1:Int),[s.1,s.2.1+(u.length:Int),x.1]++x.2.1,x.2.2)=some (bC (dataF s u.length x),none):=Du E Q;have M:Sw.app acc [bC (dataF s u.length x)]=some (acc++[bC (dataF s u.length x)]):=app_small _ _ (by simp;omega);simp only[c,aJ7,pF,aJ6,K,L,M,cM,aA8];rw[nxt (by omega)];refine⟨rfl,fun R N=>?_⟩;cases N;refine⟨by simp[D.1],fun y z=>?_⟩;rcases aI9.1 z with z | z
   ·exact D.2 y z
   ·simp at z;subst z;exact Xf E
 ·intro acc _;simp only[dC,pF];rfl
end Go.PlFr
namespace Go.PlFr
open Go.Pl
open Go Go.Sw Go.Mo
theorem Xh{l:List eR}(h:∀f∈l,cZ f=0):tN l=none:=by
 unfold tN;rw[List.findSome?_eq_none_iff];intro f u;rw[aF2 (h f u)]
variable {S M:Nat}
theorem packed_ne{f:eR}:bC f≠ []:=by unfold bC body Gz;simp
theorem Mr{f:eR}:ne1 (bC f)=some ():=by
 unfold ne1;rw[aD0];intro h;exact packed_ne (List.isEmpty_iff.1 h)
end Go.PlFr
namespace Go.PlTr
open Go.Pl
open Go Go.Sw Go.Mo
def Pj:Nat:=18446744073709551616
theorem Uo(n:Nat):IntKind.wrap .u64 (n:Int)=((n % Pj:Nat):Int):=by
 simp[IntKind.wrap,IntKind.signed,IntKind.bits,Pj]
theorem aLb{a b:Nat}(ha:a<Pj)(hb:b<Pj):ar .xor .u64 (a:Int) (b:Int)=((a ^^^ b:Nat):Int):=by
 have h:a ^^^ b<2 ^ 64:=aMl (by simpa[Pj] using ha) (by simpa[Pj] using hb);show IntKind.wrap .u64 ((BitVec.ofInt 64 (a:Int) ^^^ BitVec.ofInt 64 (b:Int)).toNat:Int)=_;simp only[rC,aO0,aMh];rw[aJm (by simpa[Pj] using ha),aJm (by simpa[Pj] using hb),Uo,aJm (by simpa[Pj] using h)]
theorem aMc{a b:Nat}:ar .mul .u64 (a:Int) (b:Int)=((a*b % Pj:Nat):Int):=by
 show IntKind.wrap .u64 ((a:Int)*(b:Int))=_;rw[show (a:Int)*(b:Int)=((a*b:Nat):Int) from by push_cast;rfl,Uo]
def aIh:Nat:=1099511628211
def dg1(h b:Nat):Nat:=(h ^^^ b)*aIh % Pj
theorem aE5(h b:Nat):dg1 h b<Pj:=aM4 _ (by decide)
def aE6(l:List Int):Nat:=(nat l).foldl dg1 14695981039346656037
theorem aE7(l:List Nat)(h:Nat)(hh:h<Pj):l.foldl dg1 h<Pj:=by
 induction l generalizing h with
 |nil=>exact hh
 |cons x l u=>exact u _ (aE5 _ _)
theorem Zv(l:List Int):aE6 l<Pj:=aE7 _ _ (by decide)
theorem Pk{A B:Type}(f:B->A->B):∀(l:List A) (i:Nat) (b:B),(l.zipIdx i).foldl (fun acc x=>f acc x.1) b=l.foldl f b
 | [],_,_=>rfl
 |x::l,i,b=>by simp only[aMt,aKa];exact Pk f l (i+1) _
theorem Pm(l:List Int)(h:Bytes l)(hl:l.length<=1000000):pI l=some (aE6 l:Int):=by
 unfold pI;rw[show ((14695981039346656037:Int),(0:Int))=(fun (i:Nat) (r:Nat)=>((r:Int),(i:Int))) 0 14695981039346656037 from rfl];rw[lp_inv (l:=l) (fun (i:Nat) (r:Nat)=>((r:Int),(i:Int))) (fun _ r=>r<Pj) 14695981039346656037 (fun _ x r=>dg1 r x.toNat) (fun r=>(r:Int)) (by unfold fI;omega) (by decide)]
 ·rw[Pk (fun r (x:Int)=>dg1 r x.toNat)];simp only[aE6,nat,List.foldl_map]
 ·rintro z x C r rfl A;have B:=h x (by simp);obtain⟨b,rfl⟩:∃b:Nat,x=(b:Int):=⟨x.toNat,by omega⟩
  have u:b<Pj:=by unfold Pj;omega
  refine⟨?_,aE5 _ _⟩;simp only[oC,aCj,lY,cM,aLb A u];rw[show (1099511628211:Int)=((aIh:Nat):Int) from rfl,aMc,inc (n:=z.length) (m:=1000000) (by simp at hl;omega) (by omega)];rfl
 ·intro acc _;simp only[dC,pF]
def Vo(h:Int):List Int:=(List.range 8).map fun j=>((h.toNat / 2 ^ (56 - 8*j) % 256:Nat):Int)
theorem aBt(h:Int):Bytes (Vo h):=by
 intro x u;simp only[Vo,aK3] at u;obtain⟨j,_,rfl⟩:=u;have:=aM4 (h.toNat / 2 ^ (56 - 8*j)) (show 0<256 by decide);omega
theorem Ke(h:Int):(Vo h).length=8:=by simp[Vo]
def Pn(l:List Int):List Int:=1::l.flatMap Vo
theorem flat_bytes{A:Type}(f:A->List Int)(l:List A)(h:∀x∈l,Bytes (f x)):Bytes (l.flatMap f):=by
 intro y u;obtain⟨x,z,u⟩:=aOe.1 u;exact h x z y u
theorem Up(l:List Int):Bytes (Pn l):=by
 intro y h;rcases aF3.1 h with rfl | h
 ·decide
 ·exact flat_bytes Vo l (fun x _=>aBt x) y h
theorem aE8{A:Type}(f:A->List Int)(m:Nat)(l:List A)(h:∀x∈l,(f x).length=m):(l.flatMap f).length=l.length*m:=by
 induction l with
 |nil=>simp
 |cons x l z=>
  rw[aOw,sM,h x (by simp),z (fun y u=>h y (by simp[u])),aIa,aKo,aMu,aM8]
theorem aBu(l:List Int):(Pn l).length=1+l.length*8:=by
 rw[Pn,aIa,aE8 Vo 8 l (fun x _=>Ke x)];omega
def aBv(l:List Int):Int:=(aE6 (Pn l):Int)
def U64(l:List Int):Prop:=∀x∈l,0<=x/\x<18446744073709551616
theorem aJw(l:List Int):0<=aBv l/\aBv l<18446744073709551616:=by
 have:=Zv (Pn l);unfold aBv;unfold Pj at this;omega
theorem shru(n k:Nat)(hk:k<=64):sh .shr .u64 (n:Int) (k:Int)=((n / 2 ^ k:Nat):Int):=by
 show Int.fdiv _ _=_;have:min (k:Int).toNat (IntKind.bits .u64)=k:=by simp[IntKind.bits];omega
 rw[this];rw[aKt _ (by exact aOk (aO6 (by decide)))]
 norm_cast
theorem aHn(l:List Int)(hu:U64 l)(hl:l.length<=1000):sR l=some (aBv l):=by
 unfold sR;rw[show ((0:Int),([(1:Int)]:List Int))=(fun (i:Nat) (r:List Int)=>((i:Int),r)) 0 [1] from rfl];rw[lp_inv (l:=l) (fun (i:Nat) (r:List Int)=>((i:Int),r)) (fun i r=>r.length<=1+8*i) [1] (fun _ x r=>r++Vo x) (fun r=>r) (by unfold fI;omega) (by simp)]
 ·rw[foldl_zipIdx Vo l 0 [1]];have: [1]++l.flatMap Vo=Pn l:=rfl;rw[this,Pm _ (Up l) (by rw[aBu];omega)];rfl
 ·rintro h x H r rfl I;have F:=hu x (by simp);obtain⟨b,rfl⟩:∃b:Nat,x=(b:Int):=⟨x.toNat,by omega⟩
  have G:h.length<=1000:=by simp at hl;omega
  refine⟨?_,by simp[Ke];omega⟩;simp only[oC,aCj,lY,cM];rw[show ((56:Int),r)=(fun i:Nat=>((56:Int) - 8*i,r++(Vo b).take i)) 0 from by simp];rw[Tm (fun i:Nat=>((56:Int) - 8*i,r++(Vo b).take i)) 8 (r++Vo b) (by unfold fI;omega)]
  ·rw[inc (n:=h.length) (m:=1000000) (by omega) (by omega)]
  ·intro i E;have u:((56:Int) - 8*(i:Int))=((56 - 8*i:Nat):Int):=by omega
   have z:cm .geq ((56:Int) - 8*(i:Int)) 0=true:=by unfold cm;simp;omega
   have A:nn ((56:Int) - 8*(i:Int))=some ():=by unfold nn;rw[aF2 (by omega)]
   have B:ar .sub .i64 ((56:Int) - 8*(i:Int)) 8=(56:Int) - 8*((i+1:Nat):Int):=by
    show IntKind.wrap .i64 _=_;rw[wrap_i64 (by omega)];push_cast;omega
   have C:IntKind.wrap .u8 (sh .shr .u64 (b:Int) ((56:Int) - 8*(i:Int)))=((b / 2 ^ (56 - 8*i) % 256:Nat):Int):=by
    rw[u,shru _ _ (by omega)];simp[IntKind.wrap,IntKind.signed,IntKind.bits]
   have D:(Vo b).take (i+1)=(Vo b).take i++[((b / 2 ^ (56 - 8*i) % 256:Nat):Int)]:=by
    rw[List.take_add_one];congr 1;simp only[Vo];rw[aKv,List.getElem?_range E];simp
   simp only[z,aCj,A,cM,C];rw[app_small _ _ (by simp[Ke];omega),cM,B,D,aE2]
  ·have:cm .geq ((56:Int) - 8*((8:Nat):Int)) 0=false:=by decide
   simp only[this,pF];rw[aLs (by rw[Ke];omega)]
 ·intro acc _;simp only[dC,pF]
def Uq(l:List Int):List Int:=(Sw.chunks 4 l).map aBv
theorem Xi{α:Type}{n:Nat}{xs c:List α}(h:c∈Sw.chunks n xs):∃k,c=(xs.drop (k*n)).take n:=by
 simp only[Sw.chunks,aK3] at h;obtain⟨k,_,rfl⟩:=h;exact⟨k,rfl⟩
theorem U64.sub{l c:List Int}(h:U64 l)(hs:∀x∈c,x∈l):U64 c:=fun x u=>h x (hs x u)
theorem Zw{l c:List Int}(h:U64 l)(hc:c∈Sw.chunks 4 l):U64 c/\c.length<=4:=by
 obtain⟨k,rfl⟩:=Xi hc;exact⟨h.sub fun x u=>aNy (aMx u),by simp;omega⟩
theorem Zx{ι α:Type}{f:ι->Option α}{g:ι->α}:∀(its:List ι) (acc:List α),(∀i∈its,f i=some (g i))->acc.length+its.length<=1000000->
  rng (δ:=Empty) (fun i acc=>(f i).bind fun v=>(Sw.app acc [v]).bind fun a=>some (.next a)) its acc=some (.brk (acc++its.map g))
 | [],acc,_,_=>by simp[rng]
 |i::is,acc,h,u=>by
  simp only[rng,h i (by simp),cM];rw[app_small _ _ (by simp at u ⊢;omega)];simp only[cM];rw[Zx is _ (fun j z=>h j (by simp[z])) (by simp at u ⊢;omega)];simp
theorem El{α:Type}(n:Nat)(xs:List α):(Sw.chunks n xs).length=(xs.length+n - 1) / n:=by simp[Sw.chunks]
theorem aE9(l:List Int)(hu:U64 l)(hl:l.length<=1000):qY l=some (Uq l):=by
 unfold qY gZ;have u:cm .lss (4:Int) 1=false:=by decide
 have z:small l=some ():=by unfold small;rw[aF2 (by omega)]
 have A:chkn 4=some ():=by decide
 simp only[jp,u,pF,cM,z,A,rg];rw[show Int.toNat 4=4 from rfl];rw[Zx (f:=sR) (g:=aBv) _ _ (fun c h=>aHn c (Zw hu h).1 (by have:=(Zw hu h).2;omega)) (by rw[El];simp;omega)];simp[Uq]
theorem aLd{a b:Nat}:cm .lss (a:Int) (b:Int)=decide (a<b):=aJk
theorem Rk(l:List Int):(Uq l).length=(l.length+3) / 4:=by simp[Uq,El]
theorem aIi(l:List Int):U64 (Uq l):=by
 intro x h;simp only[Uq,aK3] at h;obtain⟨c,_,rfl⟩:=h;exact aJw c
def Xj:Nat->List Int->List (List Int)
 | 0,_=>[]
 |f+1,l=>if l.length<=1 then [] else Uq l::Xj f (Uq l)
theorem Rl{a b:Nat}:cm .gtr (a:Int) (b:Int)=decide (b<a):=by unfold cm;simp
theorem aHo{ab:List Int->Option (List Int)}(hab:∀l,U64 l->l.length<=1000->ab l=some (Uq l)):
  ∀(n f:Nat) (l:List Int) (acc:List (List Int)),U64 l->l.length<=n->n<=1000->n<f->acc.length+n<=2000->
   loop (fun (s:List Int×List (List Int))=>bif (cm .gtr (s.1.length:Int) (1:Int)) then (ab s.1).bind fun v=>(Sw.app s.2 [v]).bind fun a=>some (.next (v,a)) else (some (.done (.brk s.2)):Option (Step (List Int×List (List Int)) (Ex (List (List Int)) (List (List Int)×Option Int))))) f (l,acc)=some (.brk (acc++Xj n l))/\
   loop (fun (s:List Int×List (List Int))=>bif (cm .gtr (s.1.length:Int) (1:Int)) then (ab s.1).bind fun v=>(Sw.app s.2 [v]).bind fun a=>some (.next (v,a)) else (some (.done (.brk s.2)):Option (Step (List Int×List (List Int)) (Ex (List (List Int)) (List (List Int)))))) f (l,acc)=some (.brk (acc++Xj n l)):=by
 intro n
 induction n with
 |zero=>
  intro f l acc _ u _ z _;obtain⟨f,rfl⟩:∃f',f=f'+1:=⟨f - 1,by omega⟩
  have:cm .gtr (l.length:Int) 1=false:=by rw[show (1:Int)=((1:Nat):Int) from rfl,Rl];simp;omega
  simp[loop,this,Xj]
 |succ n D=>
  intro f l acc A u F z G;obtain⟨f,rfl⟩:∃f',f=f'+1:=⟨f - 1,by omega⟩
  by_cases h:l.length<=1
  ·have:cm .gtr (l.length:Int) 1=false:=by rw[show (1:Int)=((1:Nat):Int) from rfl,Rl];simp;omega
   simp[loop,this,Xj,h]
  ·have:cm .gtr (l.length:Int) 1=true:=by rw[show (1:Int)=((1:Nat):Int) from rfl,Rl];simp;omega
   have E:=Rk l;obtain⟨B,C⟩:=D f (Uq l) (acc++[Uq l]) (aIi l) (by omega) (by omega) (by omega) (by simp;omega);simp only[loop,this,aCj,hab l A (by omega),cM,app_small acc [Uq l] (by simp;omega),Xj,aD0 h];rw[B,C];simp
def aBw(b:aQ):Int:=(aE6 (0::b):Int)
def leaves(bs:List aQ):List Int:=bs.map aBw
theorem Ur(bs:List aQ):U64 (leaves bs):=by
 intro x h;simp only[leaves,aK3] at h;obtain⟨b,_,rfl⟩:=h;have:=Zv (0::b);unfold aBw;unfold Pj at this;omega
def tree(bs:List aQ):List (List Int):=leaves bs::Xj bs.length (leaves bs)
def aMd(bs:List aQ):Prop:=∀b∈bs,b.length=8/\Bytes b
theorem aHp{b:aQ}(h:b.length=8/\Bytes b):uY b=some (aBw b):=by
 unfold uY;rw[app_small _ _ (by simp;omega),cM,Pm _ (by intro x u;simp at u;rcases u with rfl | u;decide;exact h.2 x u) (by simp;omega)];rfl
theorem foldl_map{A B:Type}(f:A->B):∀(l:List A) (i:Nat) (acc:List B),(l.zipIdx i).foldl (fun acc x=>acc++[f x.1]) acc=acc++l.map f
 | [],_,_=>by simp
 |x::l,i,acc=>by simp only[aMt,aKa];rw[foldl_map f l];simp
theorem of_is(bs:List aQ)(hb:aMd bs)(hl:bs.length<=1000):yX bs=some (if bs.length<1\/bs.length>32 then ([],some 1) else (tree bs,none)):=by
 unfold yX;rw[show (1:Int)=((1:Nat):Int) from rfl,show (32:Int)=((32:Nat):Int) from rfl,aLd,Rl];by_cases h:bs.length<1
 ·simp[h]
 ·by_cases u:bs.length>32
  ·have:(32<bs.length):=u;simp[h,this]
  ·have z:¬32<bs.length:=u;simp only[h,z,aJ7,pF,cM];rw[show ((0:Int),([]:List Int))=(fun (i:Nat) (r:List Int)=>((i:Int),r)) 0 [] from rfl];rw[lp_inv (l:=bs) (fun (i:Nat) (r:List Int)=>((i:Int),r)) (fun i r=>r.length=i) [] (fun _ x r=>r++[aBw x]) (fun r=>r) (by unfold fI;omega) rfl]
   ·rw[foldl_map aBw bs 0 []];have A:=(aHo (ab:=qY) aE9 bs.length fI (leaves bs) [leaves bs] (Ur bs) (by simp[leaves]) (by omega) (by unfold fI;omega) (by simp;omega)).1;rw[show []++bs.map aBw=leaves bs from rfl];have B:((1:Nat):Int)=1:=rfl;simp only[B];unfold lp;rw[A];simp[tree]
   ·rintro C x E r rfl D;refine⟨?_,by simp[D]⟩;simp only[oC,aCj,lY,cM];rw[aHp (hb x (by simp)),cM,app_small _ _ (by simp at hl ⊢;omega),cM,show ((1:Nat):Int)=1 from rfl,inc (n:=C.length) (m:=1000000) (by simp at hl;omega) (by omega)]
   ·intro acc _;simp only[dC,pF]
def Goes:List (List Int)->Prop
 | []=>False
 | [l]=>l.length=1
 |l::m::t=>1<l.length/\m=Uq l/\Goes (m::t)
theorem Us:∀(n:Nat) (l:List Int),1<=l.length->l.length<=n->Goes (l::Xj n l)
 | 0,l,u,z=>by omega
 |n+1,l,u,z=>by
  simp only[Xj];by_cases h:l.length<=1
  ·simp[h,Goes];omega
  ·rw[aD0 h];have:=Rk l;exact⟨by omega,rfl,Us n (Uq l) (by omega) (by omega)⟩
theorem Zy:∀(n:Nat) (l:List Int),(Xj n l).length<=n
 | 0,l=>by simp[Xj]
 |n+1,l=>by
  simp only[Xj];split
  ·simp
  ·have:=Zy n (Uq l);simp;omega
theorem Goes.at:∀{t:List (List Int)},Goes t->∀(pre rest:List (List Int)) (l:List Int),t=pre++l::rest->(rest=[]/\l.length=1)\/(∃m r,rest=m::r/\1<l.length/\m=Uq l)
 | [],h,_,_,_,_=>h.elim
 | [l0],h,pre,rest,l,e=>by
  cases pre with
  |nil=>simp at e;obtain⟨rfl,rfl⟩:=e;exact .inl ⟨rfl,h⟩
  |cons p pre=>simp at e
 |l0::m0::t,h,pre,rest,l,e=>by
  cases pre with
  |nil=>simp at e;obtain⟨rfl,rfl⟩:=e;exact .inr ⟨m0,t,rfl,h.1,h.2.1⟩
  |cons p pre=>simp at e;exact Goes.at h.2.2 pre rest l e.2
theorem Goes.ne{t:List (List Int)}(h:Goes t):t≠ []:=by rintro rfl;exact h
theorem aIj:∀(n:Nat) (l:List Int) (m:Nat),l.length<=m->∀x∈Xj n l,U64 x/\x.length<=m
 | 0,l,m,h,x,u=>by simp[Xj] at u
 |n+1,l,m,h,x,u=>by
  simp only[Xj] at u;split at u
  ·simp at u
  ·have z:=Rk l;rcases aF3.1 u with rfl | u
   ·exact⟨aIi l,by omega⟩
   ·exact aIj n (Uq l) m (by omega) x u
theorem tree_all(bs:List aQ)(h:bs.length<=32):∀l∈tree bs,U64 l/\l.length<=32:=by
 intro l u;rcases aF3.1 u with rfl | u
 ·exact⟨Ur bs,by simp[leaves];omega⟩
 ·exact aIj bs.length (leaves bs) 32 (by simp[leaves];omega) l u
theorem tree_len(bs:List aQ):(tree bs).length<=bs.length+1:=by
 have:=Zy bs.length (leaves bs);simp[tree];omega
theorem tree_goes(bs:List aQ)(h:1<=bs.length):Goes (tree bs):=Us _ _ (by simp[leaves];omega) (by simp[leaves])
end Go.PlTr
namespace Go.PlTf
open Go.Pl
open Go Go.Sw Go.Mo
end Go.PlTf
namespace Go.Mo
open Go Go.Sw
structure PS where
 n:Int
 fn:Int
 fnum:Int
 boots:Int
 blocks:(List aQ)
 epochs:(Int×(List (Int×aQ))×(List (Int×(List (Int×aQ))))×Bool)
 past:(List (Int×(List aQ)))
 session:Int
 sender:(Int×Int×(List (Int×(List Int)×(List aQ))))
 sent:Int
 safe:Int
 offered:(List Int)
 on:Int
 onum:Int
 oboots:Int
 first:Int
 receiver:(Int×Int)
 net:(List (Bool×Bool×(List Int)))
 fsn:Int
 fd:((List aQ)×(List (Int×aQ))×Int)
 osn:Int
 od:((List aQ)×(List (Int×aQ))×Int)
def kR(a1:Int)(a2:aQ)(s:PS):Option ((Option Int)×PS):=(eD a1 a2 s.n s.fn s.fnum s.boots s.blocks s.epochs s.past s.session s.sender s.sent s.safe s.offered s.on s.onum s.oboots s.first s.receiver s.net s.fsn s.fd s.osn s.od).bind fun v=>some (v.1,{ s with blocks:=v.2.1,epochs:=v.2.2 })
def nR(a1:Int)(s:PS):Option (aQ×(Option Int)×PS):=(fE a1 s.n s.fn s.fnum s.boots s.blocks s.epochs s.past s.session s.sender s.sent s.safe s.offered s.on s.onum s.oboots s.first s.receiver s.net s.fsn s.fd s.osn s.od).bind fun v=>some (v.1,v.2,s)
def pR(s:PS):Option ((Option Int)×PS):=(fA s.n s.fn s.fnum s.boots s.blocks s.epochs s.past s.session s.sender s.sent s.safe s.offered s.on s.onum s.oboots s.first s.receiver s.net s.fsn s.fd s.osn s.od).bind fun v=>some (v.1,{ s with fnum:=v.2.1,epochs:=v.2.2.1,past:=v.2.2.2.1,fsn:=v.2.2.2.2.1,fd:=v.2.2.2.2.2 })
def lJ(s:PS):Option ((Option Int)×PS):=(dS s.n s.fn s.fnum s.boots s.blocks s.epochs s.past s.session s.sender s.sent s.safe s.offered s.on s.onum s.oboots s.first s.receiver s.net s.fsn s.fd s.osn s.od).bind fun v=>some (v.1,{ s with sender:=v.2.1,sent:=v.2.2.1,offered:=v.2.2.2.1,net:=v.2.2.2.2 })
def iX(a1:Int)(s:PS):Option (Int×Bool×PS):=(bP a1 s.n s.fn s.fnum s.boots s.blocks s.epochs s.past s.session s.sender s.sent s.safe s.offered s.on s.onum s.oboots s.first s.receiver s.net s.fsn s.fd s.osn s.od).bind fun v=>some (v.1,v.2,s)
def rG(a1:(Int×(List Int)×(List aQ)))(s:PS):Option ((Option Int)×PS):=(eN a1 s.n s.fn s.fnum s.boots s.blocks s.epochs s.past s.session s.sender s.sent s.safe s.offered s.on s.onum s.oboots s.first s.receiver s.net s.fsn s.fd s.osn s.od).bind fun v=>some (v.1,{ s with onum:=v.2.1,osn:=v.2.2.1,od:=v.2.2.2 })
def dP(a1:(List Int))(s:PS):Option ((Option Int)×PS):=(bW a1 s.n s.fn s.fnum s.boots s.blocks s.epochs s.past s.session s.sender s.sent s.safe s.offered s.on s.onum s.oboots s.first s.receiver s.net s.fsn s.fd s.osn s.od).bind fun v=>some (v.1,{ s with onum:=v.2.1,first:=v.2.2.1,receiver:=v.2.2.2.1,net:=v.2.2.2.2.1,osn:=v.2.2.2.2.2.1,od:=v.2.2.2.2.2.2 })
def eF(a1:(List Int))(s:PS):Option ((Option Int)×PS):=(cC a1 s.n s.fn s.fnum s.boots s.blocks s.epochs s.past s.session s.sender s.sent s.safe s.offered s.on s.onum s.oboots s.first s.receiver s.net s.fsn s.fd s.osn s.od).bind fun v=>some (v.1,{ s with epochs:=v.2.1,session:=v.2.2.1,sender:=v.2.2.2.1,sent:=v.2.2.2.2.1,safe:=v.2.2.2.2.2.1,offered:=v.2.2.2.2.2.2 })
def tQ(a1:(Bool×Bool×(List Int)))(s:PS):Option ((Option Int)×PS):=(fF a1 s.n s.fn s.fnum s.boots s.blocks s.epochs s.past s.session s.sender s.sent s.safe s.offered s.on s.onum s.oboots s.first s.receiver s.net s.fsn s.fd s.osn s.od).bind fun v=>some (v.1,{ s with epochs:=v.2.1,session:=v.2.2.1,sender:=v.2.2.2.1,sent:=v.2.2.2.2.1,safe:=v.2.2.2.2.2.1,offered:=v.2.2.2.2.2.2.1,onum:=v.2.2.2.2.2.2.2.1,first:=v.2.2.2.2.2.2.2.2.1,receiver:=v.2.2.2.2.2.2.2.2.2.1,net:=v.2.2.2.2.2.2.2.2.2.2.1,osn:=v.2.2.2.2.2.2.2.2.2.2.2.1,od:=v.2.2.2.2.2.2.2.2.2.2.2.2 })
def mB(a1:Int)(s:PS):Option ((Option Int)×PS):=(eH a1 s.n s.fn s.fnum s.boots s.blocks s.epochs s.past s.session s.sender s.sent s.safe s.offered s.on s.onum s.oboots s.first s.receiver s.net s.fsn s.fd s.osn s.od).bind fun v=>some (v.1,{ s with epochs:=v.2.1,session:=v.2.2.1,sender:=v.2.2.2.1,sent:=v.2.2.2.2.1,safe:=v.2.2.2.2.2.1,offered:=v.2.2.2.2.2.2.1,onum:=v.2.2.2.2.2.2.2.1,first:=v.2.2.2.2.2.2.2.2.1,receiver:=v.2.2.2.2.2.2.2.2.2.1,net:=v.2.2.2.2.2.2.2.2.2.2.1,osn:=v.2.2.2.2.2.2.2.2.2.2.2.1,od:=v.2.2.2.2.2.2.2.2.2.2.2.2 })
def qI(a1:Int)(s:PS):Option ((Option Int)×PS):=(fG a1 s.n s.fn s.fnum s.boots s.blocks s.epochs s.past s.session s.sender s.sent s.safe s.offered s.on s.onum s.oboots s.first s.receiver s.net s.fsn s.fd s.osn s.od).bind fun v=>some (v.1,{ s with net:=v.2 })
def kU(a1:Int)(s:PS):Option ((Option Int)×PS):=(dU a1 s.n s.fn s.fnum s.boots s.blocks s.epochs s.past s.session s.sender s.sent s.safe s.offered s.on s.onum s.oboots s.first s.receiver s.net s.fsn s.fd s.osn s.od).bind fun v=>some (v.1,{ s with net:=v.2 })
def kV(a1:(Int×Int×Int×aQ))(s:PS):Option ((Option Int)×PS):=(dV a1 s.n s.fn s.fnum s.boots s.blocks s.epochs s.past s.session s.sender s.sent s.safe s.offered s.on s.onum s.oboots s.first s.receiver s.net s.fsn s.fd s.osn s.od).bind fun v=>some (v.1,{ s with net:=v.2 })
def tT(a1:(Int×aQ×Int×Int×Int×(List aQ)))(s:PS):Option ((Int×aQ×Int×Int×Int×(List aQ))×(Option Int)×PS):=(fH a1 s.n s.fn s.fnum s.boots s.blocks s.epochs s.past s.session s.sender s.sent s.safe s.offered s.on s.onum s.oboots s.first s.receiver s.net s.fsn s.fd s.osn s.od).bind fun v=>some (v.1,v.2,s)
def mC(a1:(Int×Int×Int×aQ))(s:PS):Option ((Int×aQ×Int×Int×Int×(List aQ))×(Option Int)×PS):=(gP a1 s.n s.fn s.fnum s.boots s.blocks s.epochs s.past s.session s.sender s.sent s.safe s.offered s.on s.onum s.oboots s.first s.receiver s.net s.fsn s.fd s.osn s.od).bind fun v=>some (v.1,v.2.1,{ s with n:=v.2.2.1,fn:=v.2.2.2.1,fnum:=v.2.2.2.2.1,boots:=v.2.2.2.2.2.1,blocks:=v.2.2.2.2.2.2.1,epochs:=v.2.2.2.2.2.2.2.1,past:=v.2.2.2.2.2.2.2.2.1,session:=v.2.2.2.2.2.2.2.2.2.1,sender:=v.2.2.2.2.2.2.2.2.2.2.1,sent:=v.2.2.2.2.2.2.2.2.2.2.2.1,safe:=v.2.2.2.2.2.2.2.2.2.2.2.2.1,offered:=v.2.2.2.2.2.2.2.2.2.2.2.2.2.1,on:=v.2.2.2.2.2.2.2.2.2.2.2.2.2.2.1,onum:=v.2.2.2.2.2.2.2.2.2.2.2.2.2.2.2.1,oboots:=v.2.2.2.2.2.2.2.2.2.2.2.2.2.2.2.2.1,first:=v.2.2.2.2.2.2.2.2.2.2.2.2.2.2.2.2.2.1,receiver:=v.2.2.2.2.2.2.2.2.2.2.2.2.2.2.2.2.2.2.1,net:=v.2.2.2.2.2.2.2.2.2.2.2.2.2.2.2.2.2.2.2.1,fsn:=v.2.2.2.2.2.2.2.2.2.2.2.2.2.2.2.2.2.2.2.2.1,fd:=v.2.2.2.2.2.2.2.2.2.2.2.2.2.2.2.2.2.2.2.2.2.1,osn:=v.2.2.2.2.2.2.2.2.2.2.2.2.2.2.2.2.2.2.2.2.2.2.1,od:=v.2.2.2.2.2.2.2.2.2.2.2.2.2.2.2.2.2.2.2.2.2.2.2 })
end Go.Mo
namespace Go.PlFr
open Go Go.Sw Go.Mo Go.Pl
theorem Xk{a b c:Nat}(h:a ^^^ c=b ^^^ c):a=b:=by
 have:=congrArg (·^^^ c) h;simpa[Nat.xor_assoc] using this
theorem aJx{a b c:Nat}(h:c ^^^ a=c ^^^ b):a=b:=by
 rw[Nat.xor_comm c a,Nat.xor_comm c b] at h;exact Xk h
theorem aFa{a b:Nat}(ha:a<4294967296)(hb:b<4294967296)(h:Xe a=Xe b):a=b:=by
 have top:∀x:Nat,x<2147483648->2147483648<=x ^^^ Rg:=by
  intro x B;have z:(x ^^^ Rg) / 2 ^ 31 % 2=(x / 2 ^ 31+Rg / 2 ^ 31) % 2:=aG1 x Rg 31;have u:x / 2 ^ 31=0:=Nat.div_eq_of_lt (by simpa using B);have A:Rg / 2 ^ 31=1:=by decide
  rw[u,A] at z;omega
 unfold Xe at h;by_cases z:a % 2=1
 ·by_cases u:b % 2=1
  ·rw[aF2 z,aF2 u] at h;have:=Xk h;omega
  ·rw[aF2 z,aD0 u] at h;have:=top (a / 2) (by omega);omega
 ·by_cases u:b % 2=1
  ·rw[aD0 z,aF2 u] at h;have:=top (b / 2) (by omega);omega
  ·rw[aD0 z,aD0 u] at h;omega
theorem Ms:∀(n:Nat) {a b:Nat},a<4294967296->b<4294967296->Nv n a=Nv n b->a=b
 | 0,_,_,_,_,h=>h
 |n+1,_,_,u,z,h=>Ms n u z (aFa (Kd u) (Kd z) h)
theorem xlt{r b:Nat}(hr:r<4294967296)(hb:b<256):r ^^^ b<4294967296:=by
 have:r ^^^ b<2 ^ 32:=aMl (by simpa using hr) (by omega);simpa using this
theorem aBx{r r' b:Nat}(hr:r<4294967296)(hr':r'<4294967296)(hb:b<256)(h:zN r b=zN r' b):r=r':=
 Xk (Ms 8 (xlt hr hb) (xlt hr' hb) h)
theorem aBy{r b b':Nat}(hr:r<4294967296)(hb:b<256)(hb':b'<256)(h:zN r b=zN r b'):b=b':=
 aJx (Ms 8 (xlt hr hb) (xlt hr hb') h)
theorem Ut:∀(l:List Nat) {r r':Nat},r<4294967296->r'<4294967296->(∀b∈l,b<256)->l.foldl zN r=l.foldl zN r'->r=r'
 | [],_,_,_,_,_,h=>h
 |b::l,_,_,z,A,u,h=>aBx z A (u b (by simp)) (Ut l (At z (u b (by simp))) (At A (u b (by simp))) (fun c B=>u c (by simp[B])) h)
theorem aHq{l:List Nat}{k v:Nat}(hl:∀b∈l,b<256)(hk:k<l.length)(hv:v<256)(hne:l[k]≠v):zO (l.set k v)≠zO l:=by
 intro h;have C:l=l.take k++l[k]::l.drop (k+1):=by rw[<-aM7 hk,aId]
 have D:l.set k v=l.take k++v::l.drop (k+1):=by rw[aN4,aF2 hk]
 unfold zO at h;rw[D] at h;have A:(l.take k++v::l.drop (k+1)).foldl zN 4294967295=(l.take k++l[k]::l.drop (k+1)).foldl zN 4294967295:=by rw[<-C];exact h
 rw[aNe,aNe,aKa,aKa] at A;have u:=Gx (l.take k) 4294967295 (by decide) (fun b z=>hl b (aMx z));have B:l[k]<256:=hl _ (aKu hk);have E:=Ut (l.drop (k+1)) (At u hv) (At u B) (fun b z=>hl b (aNy z)) A;exact hne (aBy u hv B E).symm
theorem aFb{a b:Nat}(ha:a<4294967296)(hb:b<4294967296)(h:sum4 a=sum4 b):a=b:=by
 simp only[sum4,aO5,and_true] at h;omega
theorem Zz{l:List Int}(h:Bytes l):zO (nat l)<4294967296:=Gx _ _ (by decide) (Gy h)
theorem torn{f:eR}(g:Good f){k:Nat}{v:Int}(hk:k<(bC f).length)(hv:0<=v/\v<=255)(hne:(bC f)[k]≠v)(hb:Bytes ((bC f).set k v)):eP ((bC f).set k v)=none:=by
 cases hf:eP ((bC f).set k v) with
 |none=>rfl
 |some x=>
  exfalso;obtain⟨N,_,h⟩:=Fq hb hf;have E:(body x).length=(body f).length:=by
   have:=congrArg List.length h;simp[bC,sum4] at this;omega
  have A:=(qH g).1;have H:=(qH N).1;have O:=Zz A;have P:=Zz H;by_cases u:k<(body f).length
  ·have e:(bC f).set k v=(body f).set k v++sum4 (4294967295 - zO (nat (body f))):=by unfold bC;rw[List.set_append_left _ _ u]
   rw[e] at h;unfold bC at h;obtain⟨D,z⟩:=List.append_inj h (by simp[E]);have Q:=aFb (by omega) (by omega) z;have B:zO (nat (body x))=zO (nat (body f)):=by omega
   rw[D] at B;have I:nat ((body f).set k v)=(nat (body f)).set k v.toNat:=by unfold nat;rw[List.map_set]
   rw[I] at B;have K:k<(nat (body f)).length:=by simpa[nat] using u
   refine aHq (Gy A) K (by omega) ?_ B;intro M;have L:(nat (body f))[k]=((body f)[k]).toNat:=by simp[nat]
   have C:(bC f)[k]=(body f)[k]:=by simp only[bC];rw[aNg u]
   have:=A _ (aKu u);rw[L] at M;rw[C] at hne;omega
  ·have e:(bC f).set k v=body f++(sum4 (4294967295 - zO (nat (body f)))).set (k - (body f).length) v:=by unfold bC;rw[List.set_append_right _ _ (by omega)]
   rw[e] at h;unfold bC at h;obtain⟨D,z⟩:=List.append_inj h E;rw[D] at z;have F:k - (body f).length<(sum4 (4294967295 - zO (nat (body f)))).length:=by
    have:(bC f).length=(body f).length+(sum4 (4294967295 - zO (nat (body f)))).length:=by simp[bC]
    omega
   have C:(bC f)[k]=(sum4 (4294967295 - zO (nat (body f))))[k - (body f).length]:=by simp only[bC];rw[List.getElem_append_right (by omega)]
   have G:(sum4 (4294967295 - zO (nat (body f))))[k - (body f).length]? =some v:=by rw[z,aLt F]
   rw[aCl F,aD2] at G;exact hne (by rw[C,G])
theorem xor8{a b:Int}(ha:0<=a/\a<=255)(hb:0<=b/\b<=255):ar .xor .u8 a b=((a.toNat ^^^ b.toNat:Nat):Int):=by
 have u:((a.toNat:Nat):Int)=a:=by omega
 have z:((b.toNat:Nat):Int)=b:=by omega
 have h:a.toNat ^^^ b.toNat<2 ^ 8:=aMl (by omega) (by omega);show IntKind.wrap .u8 ((BitVec.ofInt 8 a ^^^ BitVec.ofInt 8 b).toNat:Int)=_;rw[<-u,<-z];simp only[rC,aO0,aMh,aCk];rw[aJm (a:=a.toNat) (by omega),aJm (a:=b.toNat) (by omega),Zq (by omega)]
end Go.PlFr
namespace Go.PlFr
open Go Go.Sw Go.Mo Go.Pl
def Fr(s:tP):Option eR->tP
 |none=>s
 |some f=>if f.1=0/\f.2.2=[]/\f.2.1.length=2/\f.2.1.getD 0 0=s.1/\s.2.1<f.2.1.getD 1 0/\f.2.1.getD 1 0 - s.2.1<=min (s.2.2.length:Int) 4 then (s.1,f.2.1.getD 1 0,s.2.2.drop (f.2.1.getD 1 0 - s.2.1).toNat) else s
theorem zQ(s:tP)(b:List Int)(hb:Bytes b)(hl:b.length<=2000)(h0:iU s=0):qZ s b=some (Fr s (eP b),none):=by
 obtain⟨X,q2,S,T⟩:=Jd h0;unfold qZ;rw[check_is,aF2 h0,cM,Ul _ S T,rF b hb (by omega)];simp only[aA8,pF,cM];cases hf:eP b with
 |none=>simp[Fr]
 |some f=>
  obtain⟨g,_,_⟩:=Fq hb hf;simp only[aA8,pF,cn,cg,Fr];by_cases u:¬(f.1=0)
  ·simp[u]
  have u:=aNf.1 u;by_cases z:¬((f.2.1.length:Int)=2)
  ·have F:f.2.1.length≠2:=fun h=>z (by omega);simp[u,z,F]
  have z:=aNf.1 z;by_cases U:(f.2.2.length:Int)>0
  ·have C:f.2.2≠ []:=aLj.1 (by omega);have G:0<f.2.2.length:=by omega
   simp[u,z,G,C]
  have C:f.2.2=[]:=aIe (by omega);obtain⟨n0,n1,E⟩:∃n0 n1,f.2.1=[n0,n1]:=by
   match hm:f.2.1,z with
   | [a,c],_=>exact⟨a,c,rfl⟩
   | [],c=>simp at c
   | [_],c=>simp at c
   |_::_::_::_,c=>simp at c;omega
  have H:Sw.idx [n0,n1] (0:Int)=some n0:=by simp[Sw.idx]
  have I:Sw.idx [n0,n1] (1:Int)=some n1:=by simp[Sw.idx]
  have V:0<=n1/\n1<=2147483647:=g.num n1 (by rw[E];simp);have K:((2:Nat):Int)=2:=rfl;have L:(([]:List aQ).length:Int)=0:=rfl;have M:([n0,n1]:List Int).getD 0 0=n0:=rfl;have N:([n0,n1]:List Int).getD 1 0=n1:=rfl;have O:([n0,n1]:List Int).length=2:=rfl;simp only[u,C,E,H,I,K,L,M,N,O,ne_eq,aO8,aJ7,pF,cM,aO7];rw[show decide ((0:Int)>0)=false from rfl];simp only[pF,cM];by_cases A:¬(n0=s.1)
  ·simp[A]
  have A:=aNf.1 A;have P:ar .sub .i64 n1 s.2.1=n1 - s.2.1:=subI (by omega);simp only[A,aO8,aJ7,pF,P,cle,jp,aO7];by_cases B:s.2.1<n1/\n1 - s.2.1<=min (s.2.2.length:Int) 4
  ·have Q:n1 - s.2.1=((n1 - s.2.1).toNat:Int):=by omega
   rw[aIc (show n1 - s.2.1>0 by omega),aCj,aIc B.2,cM,aCj,aF2 B];rw[Q,sub_drop _ _ (by omega),cM,aCk]
  ·have R:(bif decide (n1 - s.2.1>0) then some (decide (n1 - s.2.1<=min (s.2.2.length:Int) 4)) else some false)=some false:=by
    by_cases D:n1 - s.2.1>0
    ·rw[aIc D,aBb (fun h=>B ⟨by omega,h⟩)];rfl
    ·rw[aBb D];rfl
   rw[R,cM,pF,aD0 B]
def Ha(r:Int×Int):Option eR->(Int×Int)×eR×Bool×(Bool×List Int)
 |none=>(r,(0,[],[]),false,(true,[]))
 |some f=>if f.1=1/\3<=f.2.1.length/\f.2.1.getD 0 0=r.1/\f.2.1.getD 2 0<=15 then
   (if f.2.1.getD 1 0=r.2/\r.2<2147483647 then ((r.1,r.2+1),(f.2.1.getD 2 0,f.2.1.drop 3,f.2.2),true,(false,bC ((0:Int),[r.1,r.2+1],([]:List aQ))))
   else (r,(0,[],[]),false,(false,bC ((0:Int),[r.1,r.2],([]:List aQ)))))
  else (r,(0,[],[]),false,(true,[]))
theorem Mt(r:Int×Int)(b:List Int)(hb:Bytes b)(hl:b.length<=2000)(h1:0<=r.1/\r.1<=2147483647)(h2:0<=r.2/\r.2<=2147483647):
  nH r b=some ((Ha r (eP b)).1,(Ha r (eP b)).2.1,(Ha r (eP b)).2.2.1,(Ha r (eP b)).2.2.2,none):=by
 unfold nH;rw[number_is,bad_no.2 h1,bad_no.2 h2,rF b hb (by omega)];simp only[Bool.or_self,aMp,aLr,pF,cM];cases hf:eP b with
 |none=>simp[Ha]
 |some f=>
  obtain⟨g,_,_⟩:=Fq hb hf;simp only[aA8,pF,cn,cg,cl,Ha];by_cases u:¬(f.1=1)
  ·simp[u]
  have u:=aNf.1 u;by_cases A:(f.2.1.length:Int)<3
  ·have G:¬3<=f.2.1.length:=by omega
   simp[u,A,G]
  obtain⟨n0,n1,n2,ns,F⟩:∃n0 n1 n2 ns,f.2.1=n0::n1::n2::ns:=by
   match hm:f.2.1,A with
   |a::c::d::e,_=>exact⟨a,c,d,e,rfl⟩
   | [],c=>simp at c
   | [_],c=>simp at c
   | [_,_],c=>simp at c
  have H:Sw.idx (n0::n1::n2::ns) (0:Int)=some n0:=by simp[Sw.idx]
  have I:Sw.idx (n0::n1::n2::ns) (1:Int)=some n1:=by simp[Sw.idx]
  have K:Sw.idx (n0::n1::n2::ns) (2:Int)=some n2:=by simp[Sw.idx]
  have L:Sw.sub (n0::n1::n2::ns) (3:Int) ((n0::n1::n2::ns).length:Int)=some ns:=sub_drop (n0::n1::n2::ns) 3 (by simp);have M:(n0::n1::n2::ns).getD 0 0=n0:=rfl;have N:(n0::n1::n2::ns).getD 1 0=n1:=rfl;have O:(n0::n1::n2::ns).getD 2 0=n2:=rfl;have P:(n0::n1::n2::ns).drop 3=ns:=rfl;have Q:3<=(n0::n1::n2::ns).length:=by simp
  rw[F] at A;simp only[u,A,F,H,I,K,L,M,N,O,P,Q,ne_eq,aO8,aJ7,pF,cM,aO7];by_cases z:¬(n0=r.1)
  ·simp[z]
  have z:=aNf.1 z;by_cases E:n2>15
  ·have:¬n2<=15:=by omega
   simp[z,E,this]
  have R:n2<=15:=by omega
  simp only[z,E,R,aO8,aJ7,pF,cM,ce,jp,aO7,aKi];by_cases B:n1=r.2/\r.2<2147483647
  ·have S:ar .add .i64 r.2 1=r.2+1:=addI (by omega);obtain⟨e,D⟩:=Um h1 (c:=r.2+1) (by omega);simp only[B.1,B.2,aMi,aCj,cM,S,Du D e,Mr,and_self,aKi]
  ·obtain⟨e,D⟩:=Um h1 h2;have T:(bif decide (n1=r.2) then some (decide (r.2<2147483647)) else some false)=some false:=by
    by_cases C:n1=r.2
    ·have:¬r.2<2147483647:=fun h=>B ⟨C,h⟩;simp[C,this]
    ·simp[C]
   rw[T,aD0 B];simp only[pF,cM,Du D e,Mr]
theorem Ik{S q:Int}(h0:iU (S,q,[])=0):nW (S,q,[])=some ([],none):=by
 have h:Rx (S,q,[])=[]:=by simp[Rx]
 have:=(Zu (S,q,[]) h0 (fun f u=>by simp at u)).1;rw[this,h];rfl
theorem Mu{S q:Int}{m:eR}(h0:iU (S,q,[m])=0)(hq:q<=2147483647)(hm:cZ m=0)(hb:∀b∈m.2.2,b.length=8/\Bytes b):
  nW (S,q,[m])=some ([bC (dataF (S,q,[m]) 0 m)],none):=by
 have u:Rx (S,q,[m])=[m]:=by simp[Rx]
 have:=(Zu (S,q,[m]) h0 (fun f h=>by simp at h;subst h;exact⟨hm,hb⟩)).1;rw[this,u];have z:Pi (S,q,[m]) 0 m []=some [bC (dataF (S,q,[m]) 0 m)]:=by
  unfold Pi;rw[aD0 (by simp;omega)];rfl
 simp[Bg,z]
theorem mD{S q:Int}{l:List eR}(hS:0<=S/\S<=2147483647)(hq:0<=q/\q<=2147483647)(hl:l.length<=64)(h:∀f∈l,cZ f=0):iU (S,q,l)=0:=by
 unfold iU;rw[bad_no.2 hS,bad_no.2 hq];simp only[Bool.or_self,aIk,aJ6];rw[aD0 (by omega),Xh h];rfl
theorem Il{S q:Int}{m:eR}(hS:0<=S/\S<=2147483647)(hq:0<=q/\q<2147483647)(hm:cZ m=0):tD (S,q,[]) m=some ((S,q,[m]),none):=by
 have z:iU (S,q,[])=0:=mD hS ⟨hq.1,by omega⟩ (by simp) (fun f h=>by simp at h);unfold tD;rw[check_is,aF2 z,cM];simp only[aA8,pF];rw[Zt,aF2 hm,cM];have A:ar .add .i64 q (([]:List eR).length:Int)=q:=by rw[addI (by simp;omega)];simp
 have u:=Uk hm;have B:lW m=some m:=by
  unfold lW kO aP;rw[app_small _ _ (by have:=u.1;simp;omega),app_small _ _ (by have:=u.2;simp;omega)];rfl
 simp only[aA8,pF,A,ce,cge];rw[show decide ((([]:List eR).length:Int)=64)=false from rfl,aBb (show¬(q>=2147483647) by omega)];simp only[pF,cM];rw[Ul [] (by simp) (fun f h=>by simp at h)];simp only[cM,B,Sw.app,aKb,aIa,aKn];rfl
end Go.PlFr
namespace Go.PlMi
open Go Go.Sw Go.Mo Go.Pl Go.PlSt
variable {d:lH}{blocks:List aQ}{a b n:Nat}
theorem aHr(h:nQ d blocks a b)(h0:1<=blocks.length)(h1:blocks.length<=32)(ha:a<=2147483647)(hb:b+1<=2147483647):
  ∃d',cG (blocks.length:Int) d [] (a:Int) (ar .add .i64 (b:Int) (1:Int))=some (none,(blocks.length:Int),d')/\nQ d' blocks a (b+1):=by
 rw[nxt (by omega)];have A:Tr blocks.length [] (a:Int) ((b+1:Nat):Int)=0:=by
  unfold Tr;rw[aD0 (by simp),aD0 (by omega)];rfl
 obtain⟨d',x',y',u,z,_,_,_,e,s⟩:=xZ h h0 h1 [] _ _ A;have u:a=x':=by omega
 have z:b+1=y':=by omega
 subst u z;exact⟨d',e,s⟩
theorem Uu(h:nQ d blocks a b)(h0:1<=blocks.length)(h1:blocks.length<=32)(ha:a<=2147483647)(hb:b+1<=2147483647):∃d',nQ d' blocks a (b+1)/\
  (∀b0 b1 b2 b3 b4 b5 b6 b7 b8 b9 b10 b11 b12 b13 b14 b15 b16 b17,iN b0 b1 b2 b3 b4 b5 b6 b7 b8 b9 b10 b11 b12 b13 b14 b15 b16 b17 (blocks.length:Int) d=some (none,(a:Int),((b+1:Nat):Int),(blocks.length:Int),d'))/\
  (∀b0 b1 b2 b3 b4 b5 b6 b7 b8 b9 b10 b11 b12 b13 b14 b15 b16 b17 b18 b19,fP b0 b1 b2 b3 b4 b5 b6 b7 b8 b9 b10 b11 b12 b13 b14 b15 b16 b17 b18 b19 (blocks.length:Int) d=some (none,(a:Int),((b+1:Nat):Int),(blocks.length:Int),d'))/\
  (∀b0 b1 b2 b3 b4 b5 b6 b7 b8 b9 b10 b11 b12 b13 b14 b15 b16 b17 b18 b19,iF b0 b1 b2 b3 b4 b5 b6 b7 b8 b9 b10 b11 b12 b13 b14 b15 b16 b17 b18 b19 (blocks.length:Int) d=some (none,(a:Int),((b+1:Nat):Int),(blocks.length:Int),d')):=by
 obtain⟨d',e,s⟩:=aHr h h0 h1 ha hb;have z:=Xa h ha (by omega);have u:ar .add .i64 (b:Int) (1:Int)=((b+1:Nat):Int):=nxt (by omega);rw[u] at e;refine⟨d',s,?_,?_,?_⟩<;>intros
 ·unfold iN;rw[z,cM];simp only[aA8,pF,u,e,cM]
 ·unfold fP;rw[z,cM];simp only[aA8,pF,u,e,cM]
 ·unfold iF;rw[z,cM];simp only[aA8,pF,u,e,cM]
theorem Uv(h:nQ d blocks a b)(h0:1<=blocks.length)(h1:blocks.length<=32):gR (blocks.length:Int) d (blocks.length:Int)=some (some ((blocks.length:Int),d),none,(blocks.length:Int),d):=by
 unfold gR;rw[aG8 h,cM,Oy h h0 h1];rfl
theorem aFc(h0:1<=n)(h1:n<=32):iL (n:Int)=some (some ((n:Int),fresh n),none):=by
 unfold iL;rw[aBm h0 h1,cM];have:=Oy (Mi h1) (by simpa using h0) (by simpa using h1);simp only[aKs] at this;simp only[aA8,pF,this,cM];rfl
def oH(past:List (Int×List aQ))(num:Int)(blocks:List aQ):List (Int×List aQ):=Ez ((Fx past num blocks).getD []) (num - 5)
theorem Je(past:List (Int×List aQ))(num:Nat)(hl:blocks.length<=1000)(hn:num<=2147483647)(hp:(Fx past (num:Int) blocks).isSome=true):
  (∀b0 b1 b3 b5 b7 b8 b9 b10 b11 b12 b13 b14 b15 b16 b17 b18 b19,eW b0 b1 (num:Int) b3 blocks b5 past b7 b8 b9 b10 b11 b12 b13 b14 b15 b16 b17 b18 b19=some (oH past num blocks))/\
  (∀b0 b1 b3 b5 b7 b8 b9 b10 b11 b12 b13 b14 b15 b16 b17 b18 b19 b20 b21,dT b0 b1 (num:Int) b3 blocks b5 past b7 b8 b9 b10 b11 b12 b13 b14 b15 b16 b17 b18 b19 b20 b21=some (oH past num blocks)):=by
 obtain⟨q,B⟩:=Option.isSome_iff_exists.1 hp;have h:ar .sub .i64 (num:Int) 4=(num:Int) - 4:=subI (by omega);have u:ar .sub .i64 ((num:Int) - 4) 1=(num:Int) - 4 - 1:=subI (by omega);have z:(num:Int) - 4 - 1=(num:Int) - 5:=by omega
 have A:aP blocks=some blocks:=by
  unfold aP;rw[app_small _ _ (by simp;omega)];rfl
 refine⟨?_,?_⟩<;>intros
 ·unfold eW oH;rw[A,cM,B,cM,h,u,z];rfl
 ·unfold dT oH;rw[A,cM,B,cM,h,u,z];rfl
end Go.PlMi
namespace Go.PlMi
open Go Go.Sw Go.Mo Go.Pl Go.PlSt
variable {d:lH}{blocks:List aQ}{a b n:Nat}
theorem Cy(num:Nat)(blocks:List aQ):oH [] num blocks=[((num:Int),blocks)]:=by
 unfold oH Fx eV Ez;simp only[aMn,aKn,aIx,aN8,kp];rw[aD0 (by omega)];rfl
theorem Hb(h:nQ d blocks a b)(h0:1<=blocks.length)(h1:blocks.length<=32)(ha:a<=2147483647)(hb:b+1<=2147483647):∃d',nQ d' blocks a (b+1)/\
  (∀b1 b2 b3 b4 b5 b6 b7 b8 b9 b10 b11 b12 b13 b14 b15 b16 b17,eM (blocks.length:Int) b1 b2 b3 b4 b5 b6 b7 b8 b9 b10 b11 b12 b13 b14 b15 b16 b17 (blocks.length:Int) d=
   some (none,(blocks.length:Int),(a:Int),((b+1:Nat):Int),blocks,((a:Int),[],[],true),[((a:Int),blocks)],-1,(0,0,[]),0,0,[],(blocks.length:Int),d'))/\
  (∀b1 b2 b3 b4 b5 b6 b7 b8 b9 b10 b11 b12 b13 b14 b15 b16 b17 b18 b19 b20 b21,fK (blocks.length:Int) b1 b2 b3 b4 b5 b6 b7 b8 b9 b10 b11 b12 b13 b14 b15 b16 b17 b18 b19 b20 b21 (blocks.length:Int) d=
   some (none,(blocks.length:Int),(a:Int),((b+1:Nat):Int),blocks,((a:Int),[],[],true),[((a:Int),blocks)],-1,(0,0,[]),0,0,[],(blocks.length:Int),d')):=by
 obtain⟨d',s,A,_,B⟩:=Uu h h0 h1 ha hb;have u:=xA s;have z:(Fx ([]:List (Int×List aQ)) (a:Int) blocks).isSome=true:=rfl;obtain⟨C,D⟩:=Je (blocks:=blocks) [] a (by omega) ha z;refine⟨d',s,?_,?_⟩<;>intros
 ·unfold eM;rw[A,cM];simp only[aA8,pF];rw[u,cM];simp only[];rw[C,cM,Cy]
 ·unfold fK;rw[B,cM];simp only[aA8,pF];rw[u,cM];simp only[];rw[D,cM,Cy]
theorem Hc(h:nQ d blocks a b)(h0:1<=blocks.length)(h1:blocks.length<=32)(ha:a<=2147483647)(hb:b+1<=2147483647):∃d',nQ d' blocks a (b+1)/\
  (∀b1 b2 b3 b4 b5 b6 b7 b8 b9 b10 b11 b12 b13 b14 b15 b16 b17 b18 b19,fW (blocks.length:Int) b1 b2 b3 b4 b5 b6 b7 b8 b9 b10 b11 b12 b13 b14 b15 b16 b17 b18 b19 (blocks.length:Int) d=
   some (none,(blocks.length:Int),(a:Int),((b+1:Nat):Int),-1,(0,0),(blocks.length:Int),d'))/\
  (∀b1 b2 b3 b4 b5 b6 b7 b8 b9 b10 b11 b12 b13 b14 b15 b16 b17 b18 b19 b20 b21,fL (blocks.length:Int) b1 b2 b3 b4 b5 b6 b7 b8 b9 b10 b11 b12 b13 b14 b15 b16 b17 b18 b19 b20 b21 (blocks.length:Int) d=
   some (none,(blocks.length:Int),(a:Int),((b+1:Nat):Int),-1,(0,0),(blocks.length:Int),d')):=by
 obtain⟨d',s,_,u,_⟩:=Uu h h0 h1 ha hb;refine⟨d',s,?_,?_⟩<;>intros
 ·unfold fW;rw[u,cM]
 ·unfold fL;rw[u,cM]
def tup(s:PS):=(s.n,s.fn,s.fnum,s.boots,s.blocks,s.epochs,s.past,s.session,s.sender,s.sent,s.safe,s.offered,s.on,s.onum,s.oboots,s.first,s.receiver,s.net,s.fsn,s.fd,s.osn,s.od)
theorem aFd(h0:1<=n)(h1:n<=32):∃d1 d2,nQ d1 (List.replicate n aU) 0 1/\nQ d2 (List.replicate n aU) 0 1/\
  iO (n:Int)=some (some (tup { n:=n,fn:=n,fnum:=0,boots:=1,blocks:=List.replicate n aU,epochs:=(0,[],[],true),past:=[(0,List.replicate n aU)],session:= -1,sender:=(0,0,[]),sent:=0,safe:=0,offered:=[],on:=n,onum:=0,oboots:=1,first:= -1,receiver:=(0,0),net:=[],fsn:=n,fd:=d1,osn:=n,od:=d2 }),none):=by
 have u:=Mi (n:=n) h1;have h:(List.replicate n aU).length=n:=aKs;obtain⟨d1,s1,z,_⟩:=Hb u (by rw[h];exact h0) (by rw[h];exact h1) (by decide) (by decide);obtain⟨d2,B,A,_⟩:=Hc u (by rw[h];exact h0) (by rw[h];exact h1) (by decide) (by decide);rw[h] at z A;refine⟨d1,d2,s1,B,?_⟩;unfold iO;rw[aFc h0 h1,cM];simp only[uV,aA8,pF,cM];rw[z,cM];simp only[aA8,pF];rw[A,cM];rfl
end Go.PlMi
namespace Go.PlMi
open Go Go.Sw Go.Mo Go.Pl Go.PlEp
structure EpM (m:Nat) (b:Bd) (now:List aQ) (snaps:List (List aQ)):Prop where
 may:tL b (m:Int)=0
 num:(snaps.length:Int)=b.1+1
 nowl:now.length=m
 len:∀s∈snaps,s.length=m
 open_:Kc (snaps.getD b.1.toNat []) b.2.1=now
 chain:Zm snaps b.2.2.1
variable {m:Nat}{b:Bd}{now:List aQ}{snaps:List (List aQ)}
theorem EpM.add(h:EpM m b now snaps){p:oD}(hp:0<=p.1/\p.1<m):EpM m (b.1,putF b.2.1 p,b.2.2.1,b.2.2.2) (now.set p.1.toNat p.2) snaps:=by
 obtain⟨E,F,G,H,I,z,K,L,M⟩:=bmay_ok h.may;have B:=ris_bounds m b.2.1 _ z;have C:=ris_bounds m (putF b.2.1 p) _ (Tt hp z);refine⟨aHc h.may hp,h.num,by rw[aM0];exact h.nowl,h.len,?_,h.chain⟩;have D:Kc (snaps.getD b.1.toNat []) (putF b.2.1 p)=Kc (snaps.getD b.1.toNat []) (b.2.1++[p]):=
  Pb (fun q u=>by have:=C q u;omega) (fun q u=>by
   rcases aI9.1 u with u | u
   ·have:=B q u;omega
   ·simp at u;subst u;exact hp.1) fun i=>aBp z i
 show Kc (snaps.getD b.1.toNat []) (putF b.2.1 p)=_;rw[D];have A:=h.open_;unfold Kc at A ⊢;rw[aNe,A];rfl
theorem aFe{n base:Int}:∀(l:List Ep) (j:Int),Fk n base j l=true->∀e∈l,e.1<=base+j+l.length - 1
 | [],_,_,e,h=>by simp at h
 |x::l,j,u,e,h=>by
  simp only[Fk] at u;split at u
  ·rename_i z;rcases aF3.1 h with rfl | h
   ·simp only[aIa];omega
   ·have:=aFe l (j+1) u e h;simp only[aIa];omega
  ·cases u
theorem EpM.shut(h:EpM m b now snaps)(hi:b.1<2147483647):EpM m (Bf b) now (snaps++[now]):=by
 obtain⟨I,K,L,M,N,O,P,Q,E⟩:=bmay_ok h.may;have H:=h.num;have A:(Bf b).1=b.1+1:=by unfold Bf;split;rfl;split<;>rfl
 have C:(Bf b).2.1=[]:=by unfold Bf;split;rfl;split<;>rfl
 have D:∀e∈b.2.2.1,e.1<=b.1:=fun e u=>by have:=aFe _ _ E e u;omega
 have B:Zm (snaps++[now]) b.2.2.1:=fun e u=>by
  obtain⟨F,G⟩:=h.chain e u;have:=D e u;exact⟨F,by rw[tM (by omega),tM (by omega)];exact G⟩
 refine⟨aEo h.may hi,by rw[A];simp;omega,h.nowl,fun s z=>?_,?_,?_⟩
 ·rcases aI9.1 z with z | z
  ·exact h.len s z
  ·simp at z;subst z;exact h.nowl
 ·rw[C,A,Dt (by omega)];rfl
 ·unfold Bf;split
  ·exact B
  ·split
   ·intro e u;simp at u
   ·intro e u;rcases aI9.1 u with u | u
    ·exact B e u
    ·simp only[aMm] at u;subst u;refine⟨by simp only;omega,?_⟩;simp only;rw[show b.1+1 - 1=b.1 by omega,tM (by omega),Dt (by omega)];exact h.open_
theorem EpM.drop(h:EpM m b now snaps){num:Int}(hn:0<=num/\num<=b.1):oB b (m:Int) num=some ((b.1,b.2.1,b.2.2.1.filter (fun e=>decide (num<e.1)),if num=b.1 then false else b.2.2.2),none)/\
  EpM m (b.1,b.2.1,b.2.2.1.filter (fun e=>decide (num<e.1)),if num=b.1 then false else b.2.2.2) now snaps:=
 ⟨aHd h.may hn,aEn h.may hn,h.num,h.nowl,h.len,h.open_,fun e u=>h.chain e (aMs.1 u).1⟩
theorem Uw(hm:1<=m/\m<=32){num:Nat}(hn:snaps.length=num+1)(hb:num<=2147483647)(hl:∀s∈snaps,s.length=m):EpM m ((num:Int),[],[],true) (snaps.getD num []) snaps:=by
 refine⟨Ds (by omega) (by simp;omega) (by simp) rfl (by simp) (by simp) rfl,by simp;omega,?_,hl,rfl,fun e h=>by simp at h⟩;rw[aEg,aCl (by omega)];exact hl _ (aKu _)
theorem Mv{n:Int}:∀(A:List (Option oD)) (j:Nat),(∀(i:Nat) (p:oD),A[i]? =some (some p)->p.1=((j+i:Nat):Int)/\p.1<n)->∀prev:Int,prev<(j:Int)->Go.PlPn.rise n prev (A.filterMap id)=true
 | [],_,_,_,_=>rfl
 |none::A,j,h,prev,B=>by
  simp only[List.filterMap_cons,id];exact Mv A (j+1) (fun i p u=>by have:=h (i+1) p (by simpa using u);refine⟨?_,this.2⟩;rw[this.1];congr 1;omega) prev (by omega)
 |some q::A,j,h,prev,B=>by
  have z:=h 0 q rfl;simp only[List.filterMap_cons,id,Go.PlPn.rise,aIb,aLq];refine⟨by unfold Go.PlPn.badP;simp;omega,?_⟩;exact Mv A (j+1) (fun i p u=>by have:=h (i+1) p (by simpa using u);refine⟨?_,this.2⟩;rw[this.1];congr 1;omega) q.1 (by rw[z.1];omega)
theorem EpM.since(h:EpM m b now snaps){k:Int}(hk:0<=k/\k<=b.1):mL b (m:Int) k=some ((0,[]),false,none)\/
  ∃ps,mL b (m:Int) k=some ((b.1,ps),true,none)/\Kc (snaps.getD k.toNat []) ps=snaps.getD b.1.toNat []/\Go.PlPn.rise (m:Int) (-1) ps=true/\ps.length<=32:=by
 obtain⟨E,F,G,H,I,K,L,M,A⟩:=bmay_ok h.may;rw[since_is b m k (sm_of h.may),aD0 (by rw[h.may];simp),aD0 (by omega)];by_cases c:b.1 - k>b.2.2.1.length
 ·rw[aF2 c];exact .inl rfl
 ·rw[aD0 c];refine .inr ⟨_,rfl,?_⟩;have u:=Tw (k:=k) (snaps:=snaps) (by omega:(m:Int)<=32) (by omega:b.1 - b.2.2.1.length+1 - 1<=k) (by omega) b.2.2.1 A h.chain;have B:max k (b.1 - b.2.2.1.length+1+b.2.2.1.length - 1)=b.1:=by omega
  rw[B] at u;refine⟨u.1,?_,?_⟩
  ·refine Mv _ 0 (fun i p z=>?_) (-1) (by omega);have C:=u.2 i p z;have D:=Xd (n:=(m:Int)) (Kb A) z;exact⟨by simpa using C,D.2⟩
  ·refine aLi (List.length_filterMap_le _ _) ?_;rw[Ar];simp
end Go.PlMi
namespace Go.PlMi
open Go Go.Sw Go.Mo Go.Pl
open Go.PlSt (aBj aBk orI orP)
abbrev Chg:=Int×Int×Int×aQ
abbrev Fm:=Int×List Int×List aQ
theorem aLe{a b:Nat}(ha:a<4611686018427387904)(hb:b<4611686018427387904):ar .and .i64 (a:Int) (b:Int)=((a &&& b:Nat):Int):=by
 have h:a &&& b<2 ^ 62:=Nat.lt_of_le_of_lt Nat.and_le_left (by simpa using ha);show IntKind.wrap .i64 ((BitVec.ofInt 64 (a:Int) &&& BitVec.ofInt 64 (b:Int)).toNat:Int)=_;simp only[rC,aO1,aMh];rw[aJm (a:=a) (by omega),aJm (a:=b) (by omega)];exact wrap_i64 (by omega)
theorem aHs{at_ k fr:Nat}(h1:at_<32)(h2:k<4)(h3:fr<64):ar .or .i64 (ar .or .i64 (sh .shl .i64 (at_:Int) (8:Int)) (sh .shl .i64 (k:Int) (6:Int))) (fr:Int)=((at_*256+k*64+fr:Nat):Int):=by
 have h:sh .shl .i64 (at_:Int) (8:Int)=((at_*2 ^ 8:Nat):Int):=aBk (c:=8) (by omega) (by omega);have u:sh .shl .i64 (k:Int) (6:Int)=((k*2 ^ 6:Nat):Int):=aBk (c:=6) (by omega) (by omega);rw[h,u,orI (by omega) (by omega),orP (by omega),orI (by omega) (by omega)];have z:at_*2 ^ 8+k*2 ^ 6=(at_*4+k)*2 ^ 6:=by omega
 rw[z,orP (by omega)]
theorem aJy{at_ k fr:Nat}(h1:at_<32)(h2:k<4)(h3:fr<64):sh .shr .i64 ((at_*256+k*64+fr:Nat):Int) (8:Int)=(at_:Int)/\
  ar .and .i64 (sh .shr .i64 ((at_*256+k*64+fr:Nat):Int) (6:Int)) (3:Int)=(k:Int)/\ar .and .i64 ((at_*256+k*64+fr:Nat):Int) (63:Int)=(fr:Int):=by
 have h:sh .shr .i64 ((at_*256+k*64+fr:Nat):Int) (8:Int)=(((at_*256+k*64+fr) / 2 ^ 8:Nat):Int):=aBj _ 8 (by omega);have u:sh .shr .i64 ((at_*256+k*64+fr:Nat):Int) (6:Int)=(((at_*256+k*64+fr) / 2 ^ 6:Nat):Int):=aBj _ 6 (by omega);have z:ar .and .i64 (((at_*256+k*64+fr) / 2 ^ 6:Nat):Int) (3:Int)=((((at_*256+k*64+fr) / 2 ^ 6) &&& 3:Nat):Int):=aLe (b:=3) (by omega) (by omega);have A:ar .and .i64 ((at_*256+k*64+fr:Nat):Int) (63:Int)=(((at_*256+k*64+fr) &&& 63:Nat):Int):=aLe (b:=63) (by omega) (by omega);rw[h,u,z,A];have B:∀x:Nat,x &&& 3=x % 4:=fun x=>aNo x 2;have C:∀x:Nat,x &&& 63=x % 64:=fun x=>aNo x 6;rw[B,C];refine⟨?_,?_,?_⟩<;>congr 1<;>omega
def oJ(q:Chg):Int:=q.1*256+q.2.1*64+q.2.2.1
def sV(l:List Chg):List aQ:=(l.filter fun q=>decide (q.2.1=3)).map fun q=>q.2.2.2
structure ChgOk (q:Chg):Prop where
 a:0<=q.1/\q.1<32
 k:0<=q.2.1/\q.2.1<=3
 f:0<=q.2.2.1/\q.2.2.1<64
 z:q.2.1≠3->q.2.2.2=aU
def qJ(l:List Chg)(frm to:Int):Fm:=((4:Int),[frm,to]++l.map oJ,sV l)
theorem aFf{q:Chg}(h:ChgOk q):ar .or .i64 (ar .or .i64 (sh .shl .i64 q.1 (8:Int)) (sh .shl .i64 q.2.1 (6:Int))) q.2.2.1=oJ q:=by
 obtain⟨a,u⟩:∃a:Nat,q.1=a:=⟨q.1.toNat,by have:=h.a;omega⟩
 obtain⟨k,z⟩:∃a:Nat,q.2.1=a:=⟨q.2.1.toNat,by have:=h.k;omega⟩
 obtain⟨f,A⟩:∃a:Nat,q.2.2.1=a:=⟨q.2.2.1.toNat,by have:=h.f;omega⟩
 have B:=h.a;have C:=h.k;have D:=h.f;unfold oJ;rw[u,z,A,aHs (by omega) (by omega) (by omega)];omega
theorem aHt{q:Chg}(h:ChgOk q):sh .shr .i64 (oJ q) (8:Int)=q.1/\ar .and .i64 (sh .shr .i64 (oJ q) (6:Int)) (3:Int)=q.2.1/\ar .and .i64 (oJ q) (63:Int)=q.2.2.1:=by
 obtain⟨a,u⟩:∃a:Nat,q.1=a:=⟨q.1.toNat,by have:=h.a;omega⟩
 obtain⟨k,z⟩:∃a:Nat,q.2.1=a:=⟨q.2.1.toNat,by have:=h.k;omega⟩
 obtain⟨f,A⟩:∃a:Nat,q.2.2.1=a:=⟨q.2.2.1.toNat,by have:=h.f;omega⟩
 have B:=h.a;have C:=h.k;have D:=h.f;have:=aJy (at_:=a) (k:=k) (fr:=f) (by omega) (by omega) (by omega);unfold oJ;rw[u,z,A];have e:(a:Int)*256+(k:Int)*64+(f:Int)=((a*256+k*64+f:Nat):Int):=by omega
 rw[e];exact this
theorem Hd(l:List Chg)(x:Chg):sV (l++[x])=sV l++(if x.2.1=3 then [x.2.2.2] else []):=by
 unfold sV;rw[aLw,aMz];by_cases h:x.2.1=3<;>simp[h]
theorem Ux(l:List Chg):(sV l).length<=l.length:=by unfold sV;rw[aLc];exact aM6 _ _
theorem aFg(num frm:Int)(ps:List (Int×aQ))(base:List aQ)(hp:ps.length<=32)(he:Go.PlPn.planErr base []=0)(hr:Go.PlPn.rise (base.length:Int) (-1) ps=true)(hk:∀q∈Go.PlPn.pkts ps base [],ChgOk q):
  qF (num,ps) base frm=some (qJ (Go.PlPn.pkts ps base []) frm num,decide (((2+(Go.PlPn.pkts ps base []).length:Nat):Int)<=9)):=by
 unfold qF;rw[Go.PlPn.packets_is ps base [] (by omega) (by simp),aD0 (by rw[he];simp),aF2 hr,cM];simp only[aA8,pF];have A:(Go.PlPn.pkts ps base []).length<=32:=aLi (Go.PlPn.pkts_len _ _ _) hp;generalize hL:Go.PlPn.pkts ps base []=L at hk A;rw[show ((0:Int),([frm,num]:List Int),([]:List aQ))=(fun (i:Nat) (acc:List Int×List aQ)=>((i:Int),acc.1,acc.2)) 0 ([frm,num],[]) from rfl];refine Cu (l:=L) (fun (i:Nat) (acc:List Int×List aQ)=>((i:Int),acc.1,acc.2)) (fun h acc=>acc=([frm,num]++h.map oJ,sV h)) (fun acc=>(acc.1,acc.2)) ([frm,num],[]) (by unfold fI;omega) rfl ?_ ?_ ?_
 ·rintro h x E acc z rfl;have C:h.length<=32:=by rw[z] at A;simp at A;omega
  have B:=hk x (by rw[z];simp);have D:=Ux h;refine⟨([frm,num]++(h++[x]).map oJ,sV (h++[x])),?_,rfl⟩;simp only[jY z,aCj,jN z,cM,aFf B];rw[app_small _ _ (by simp;omega),cM,nxt (by omega),ce,Hd];by_cases u:x.2.1=3
  ·rw[aIc u,aCj,app_small _ _ (by simp;omega),cM,aF2 u];simp
  ·rw[aBb u,pF,aD0 u];simp
 ·rintro acc rfl;simp only[dC,pF]
 ·rintro acc rfl;simp only[qJ,cle];have e:(([frm,num]++L.map oJ).length:Int)=((2+L.length:Nat):Int):=by rw[sM,aLc];rfl
  rw[e]
end Go.PlMi
namespace Go.PlMi
open Go Go.Sw Go.Mo Go.Pl
theorem Xl(l:List Chg)(frm to:Int)(hl:l.length<=32)(hk:∀q∈l,ChgOk q):nI (qJ l frm to)=some (l,true):=by
 unfold nI qJ;have I:Sw.sub ([frm,to]++l.map oJ) (2:Int) ((([frm,to]++l.map oJ).length:Nat):Int)=some (l.map oJ):=by
  have:=Go.PlFr.sub_drop ([frm,to]++l.map oJ) 2 (by simp);simpa using this
 rw[I,cM];have K:(l.map oJ).length=l.length:=aLc ..;rw[show (sV l,(0:Int),([]:List Chg))=(fun (i:Nat) (acc:List aQ×List Chg)=>(acc.1,(i:Int),acc.2)) 0 (sV l,[]) from rfl];refine Cu (l:=l) (fun (i:Nat) (acc:List aQ×List Chg)=>(acc.1,(i:Int),acc.2)) (fun F acc=>acc.2=F/\sV F++acc.1=sV l) (fun acc=>(acc.1,acc.2)) (sV l,[]) (by unfold fI;omega) ⟨rfl,rfl⟩ ?_ ?_ ?_
 ·rintro F x u ⟨G,out⟩ C ⟨B,h⟩;simp only at B h;subst B;have U:out.length<=32:=by rw[C] at hl;simp at hl;omega
  have H:=hk x (by rw[C];simp);obtain⟨R,S,T⟩:=aHt H;have L:Sw.idx (l.map oJ) (out.length:Int)=some (oJ x):=rD (by rw[C];simp);have D:cm .lss (out.length:Int) ((l.map oJ).length:Int)=true:=by rw[K];exact jY C
  simp only[D,aCj,L,cM,R,S,T,jp,ce];have E:sV l=sV out++((if x.2.1=3 then [x.2.2.2] else [])++sV u):=by
   rw[C,show out++x::u=(out++[x])++u by simp];have:∀a b:List Chg,sV (a++b)=sV a++sV b:=fun a b=>by unfold sV;rw[aLw,aMz]
   rw[this,Hd,aE2]
  rw[E] at h;have h:=List.append_cancel_left h;by_cases A:x.2.1=3
  ·rw[aF2 A] at h;subst h;rw[aIc A,aCj];have M:decide (((([x.2.2.2]++sV u).length:Nat):Int)=0)=false:=aBb (by simp;omega);have N:Sw.sub ([x.2.2.2]++sV u) (1:Int) ((([x.2.2.2]++sV u).length:Nat):Int)=some (sV u):=by
    have:=Go.PlFr.sub_drop ([x.2.2.2]++sV u) 1 (by simp);simpa using this
   have O:Sw.idx ([x.2.2.2]++sV u) (0:Int)=some x.2.2.2:=by simp[Sw.idx]
   rw[M,pF,O,cM,N,cM,app_small _ _ (by simp;omega),cM,nxt (by omega)];refine⟨(sV u,out++[x]),rfl,rfl,?_⟩;simp only;rw[Hd,aF2 A,E,aF2 A,aE2]
  ·rw[aD0 A,aKn] at h;subst h;rw[aBb A,pF,app_small _ _ (by simp;omega),cM,nxt (by omega)];have P:=H.z A;refine⟨(sV u,out++[x]),?_,rfl,?_⟩
   ·rw[<-P]
   ·simp only;rw[Hd,aD0 A,aKc,E,aD0 A,aKn]
 ·rintro⟨G,out⟩ ⟨B,h⟩;simp only at B h;subst B;have D:cm .lss (out.length:Int) ((out.map oJ).length:Int)=false:=by rw[aLc];exact dC
  simp only[D,pF]
 ·rintro⟨G,out⟩ ⟨B,h⟩;simp only at B h;subst B;have Q:G=[]:=by
   have:=congrArg List.length h;simp at this;exact this
  subst Q;rfl
end Go.PlMi
namespace Go.PlMi
open Go Go.Sw Go.Mo Go.Pl
open Go.PlSt (nQ rQ Tr pA xA xZ)
open Go.PlFr (cZ)
def yB(b:aQ):Prop:=b.length=8/\Bytes b
structure NewsAt (n:Nat) (snaps:List (List aQ)) (cur to:Int) (m:Fm):Prop where
 lt:cur<to
 nn:0<=cur
 le:to<snaps.length
 load:cZ m=0
 blk:∀b∈m.2.2,yB b
 say:m=((5:Int),[to],snaps.getD to.toNat [])\/∃l ps,m=qJ l cur to/\l.length<=7/\(∀q∈l,ChgOk q)/\oA l (snaps.getD cur.toNat []) []=some (ps,[],none)/\
  rQ (snaps.getD cur.toNat []) ps=snaps.getD to.toNat []/\ps.length<=n/\(∀p∈ps,0<=p.1/\p.1<(n:Int))
def mF:Nat->List aQ->List (Int×aQ)
 |_,[]=>[]
 |i,b::l=>((i:Int),b)::mF (i+1) l
theorem He:∀(l:List aQ) (i:Nat) (b:aQ),mF i (l++[b])=mF i l++[(((i+l.length:Nat):Int),b)]
 | [],_,_=>rfl
 |x::l,i,b=>by
  simp only[aKr,mF,aIa];rw[He l (i+1) b];congr 4;omega
theorem Cz:∀(l:List aQ) (i:Nat),(mF i l).length=l.length
 | [],_=>rfl
 |_::l,i=>by simp[mF,Cz l (i+1)]
theorem Jf:∀(l:List aQ) (i:Nat),∀p∈mF i l,(i:Int)<=p.1/\p.1<((i+l.length:Nat):Int)
 | [],_,p,h=>by simp[mF] at h
 |x::l,i,p,h=>by
  simp only[mF,aF3] at h;rcases h with rfl | h
  ·simp only[aIa];omega
  ·have:=Jf l (i+1) p h;simp only[aIa];omega
theorem Mw:∀(l pre base:List aQ),base.length=l.length->rQ (pre++base) (mF pre.length l)=pre++l
 | [],pre,base,h=>by
  have:base=[]:=aIe (by simpa using h);subst this;rfl
 |x::l,pre,base,h=>by
  match base,h with
  |y::base,h=>
   simp only[mF];show rQ ((pre++y::base).set ((pre.length:Int)).toNat x) (mF (pre.length+1) l)=_;have:(pre++y::base).set ((pre.length:Int)).toNat x=(pre++[x])++base:=by simp
   rw[this];have:=Mw l (pre++[x]) base (by simpa using h);simp only[sM,aIa,aKb] at this;rw[this];simp
variable {n:Nat}{snaps:List (List aQ)}
theorem Mx{d:(List aQ)×(List (Int×aQ))×Int}{blocks:List aQ}{a b:Nat}(h:nQ d blocks a b)(h0:1<=blocks.length)(h1:blocks.length<=32)(hbl:b<=2147483647)(puts:List (Int×aQ))(to:Int)(ht:0<=to/\to<=2147483647)
  (hl:puts.length<=blocks.length) (hp:∀p∈puts,0<=p.1/\p.1<(blocks.length:Int)):
  ∃d',nQ d' (rQ blocks puts) to.toNat b/\
   (∀b0 b1 b2 b4 b5 b6 b7 b8 b9 b10 b11 b12 b13 b14 b15 b16 b17 b20 b21,jB puts to b0 b1 b2 (b:Int) b4 b5 b6 b7 b8 b9 b10 b11 b12 b13 b14 b15 b16 b17 (blocks.length:Int) d b20 b21=some (none,to,(blocks.length:Int),d'))/\
   (∀b0 b1 b2 b3 b4 b5 b6 b7 b8 b9 b10 b11 b12 b13 b15 b16 b17 b18 b19,gF puts to b0 b1 b2 b3 b4 b5 b6 b7 b8 b9 b10 b11 b12 b13 (b:Int) b15 b16 b17 b18 b19 (blocks.length:Int) d=some (none,to,(blocks.length:Int),d')):=by
 have B:Tr blocks.length puts to (b:Int)=0:=by
  unfold Tr;rw[aD0 (by omega),aD0 (by omega),aD0];intro C;obtain⟨p,D,A⟩:=aNn.1 C;have:=hp p D;unfold pA at A;simp at A;omega
 obtain⟨d',x',y',u,z,_,_,_,e,E⟩:=xZ h h0 h1 puts to (b:Int) B;have u:to.toNat=x':=by omega
 have z:b=y':=by omega
 subst u z;refine⟨d',E,?_,?_⟩<;>intros
 ·unfold jB;rw[e];rfl
 ·unfold gF;rw[e];rfl
end Go.PlMi
namespace Go.PlMi
open Go Go.Sw Go.Mo Go.Pl
open Go.PlSt (nQ rQ Tr pA xA xZ)
open Go.PlFr (cZ)
variable {n:Nat}{snaps:List (List aQ)}
theorem Rm{γ:Type}(l:List aQ)(hl:l.length<=1000)(k:List (Int×aQ)->Option γ):
  lp (β:=(List (Int×aQ))) (fun (s19:Int×(List (Int×aQ)))=>
    bif (cm .lss s19.1 (l.length:Int)) then
     (Sw.idx l s19.1).bind fun z26=>
      (Sw.app s19.2 ([(s19.1,z26)]:(List (Int×aQ)))).bind fun v27=>
       some (.next ((ar .add .i64 s19.1 (1:Int)),v27))
    else
     some (.done (.brk s19.2))
    ) ((0:Int),([]:(List (Int×aQ)))) k=k (mF 0 l):=by
 rw[show ((0:Int),([]:List (Int×aQ)))=(fun (i:Nat) (acc:List (Int×aQ))=>((i:Int),acc)) 0 [] from rfl];refine Cu (l:=l) (fun (i:Nat) (acc:List (Int×aQ))=>((i:Int),acc)) (fun h acc=>acc=mF 0 h) (fun acc=>acc) [] (by unfold fI;omega) rfl ?_ ?_ ?_
 ·rintro h x A acc u rfl;have z:h.length<=1000:=by rw[u] at hl;simp at hl;omega
  refine⟨mF 0 (h++[x]),?_,rfl⟩;simp only[jY u,aCj,jN u,cM];rw[app_small _ _ (by simp[Cz];omega),cM,nxt (by omega),He,aNd]
 ·rintro acc rfl;simp only[dC,pF]
 ·rintro acc rfl;rfl
theorem aHu{s:PS}{blocks:List aQ}{a b:Nat}(h:nQ s.od blocks a b)(hbk:blocks=snaps.getD a [])(h0:1<=n)(h1:n<=32)(hln:∀x∈snaps,x.length=n)(ha:s.onum=(a:Int))(hal:a<snaps.length)(hsl:snaps.length<=2147483647)(hb:s.oboots=(b:Int))(hbl:b<=2147483647)
  (hon:s.on=(n:Int)) (ho:s.osn=(n:Int)) {m:Fm} {to:Int} (hm:NewsAt n snaps (a:Int) to m):
  ∃d',nQ d' (snaps.getD to.toNat []) to.toNat b/\rG m s=some (none,{ s with onum:=to,osn:=(n:Int),od:=d' }):=by
 have S:=hm.lt;have T:=hm.le;have E:∀i:Nat,i<snaps.length->(snaps.getD i []).length=n:=fun i O=>by
  rw[aEg,aCl O];exact hln _ (aKu _)
 have A:blocks.length=n:=by rw[hbk];exact E a hal
 have F:(snaps.getD to.toNat []).length=n:=E _ (by omega);rcases hm.say with rfl |⟨l,P,rfl,U,Q,D,z,V,R⟩
 ·
  obtain⟨d',u,_,e⟩:=Mx h (by omega) (by omega) hbl (mF 0 (snaps.getD to.toNat [])) to (by omega) (by rw[Cz];omega) (fun p C=>by have:=Jf _ _ p C;omega);rw[A] at e;have z:rQ blocks (mF 0 (snaps.getD to.toNat []))=snaps.getD to.toNat []:=by
   have:=Mw (snaps.getD to.toNat []) [] blocks (by omega);simpa using this
  rw[z] at u;refine⟨d',u,?_⟩;unfold rG eN;have B:Sw.idx [to] (0:Int)=some to:=by simp[Sw.idx]
  have I:((([to]:List Int).length:Nat):Int)=1:=rfl;simp only[ce,I,hon,F,B,cg,aMi,aCj,cM];rw[ha,aIc (show to>(a:Int) by omega),aCj];have G:=Rm (snaps.getD to.toNat []) (by omega) (γ:=(Option Int)×Int×Int×((List aQ)×(List (Int×aQ))×Int));rw[F] at G;rw[G];simp only[cM,hb,ho,e]
 ·
  obtain⟨d',u,_,e⟩:=Mx h (by omega) (by omega) hbl P to (by omega) (by omega) (fun p C=>by have:=R p C;omega);rw[A] at e;rw[aCk] at D z;rw[hbk,z] at u;refine⟨d',u,?_⟩;have H:=xA h;rw[A] at H;unfold rG eN;have K:=Xl l (a:Int) to (by omega) Q;have B:Sw.idx ((qJ l (a:Int) to).2.1) (0:Int)=some (a:Int):=by simp[qJ,Sw.idx]
  have L:Sw.idx ((qJ l (a:Int) to).2.1) (1:Int)=some to:=by simp[qJ,Sw.idx]
  have M:(qJ l (a:Int) to).1=4:=rfl;have N:decide ((((qJ l (a:Int) to).2.1.length:Nat):Int)>=2)=true:=aIc (by simp[qJ];omega);rw[<-hbk] at D;simp only[ce,M,cge,N,B,L,cg,aCj,cM];rw[show decide ((4:Int)=5)=false from rfl,pF,cM,pF,aIc trivial,aCj,ha,aIc rfl,aCj,aIc (show to>(a:Int) by omega),cM,aCj,ho,H,cM];simp only[aA8,pF,K,cM,D,aLr];rw[show decide ((([]:List Int).length:Int)>0)=false from rfl];simp only[cM,pF,hb,e]
end Go.PlMi
namespace Go.PlMi
open Go Go.Sw Go.Mo Go.Pl
open Go.PlSt (rQ)
open Go.PlPn (rise badP Jn pkts Rw news planErr)
open Go.PlFr (cZ dH)
open Go.PlEp (Kc)
theorem Po{n:Int}:∀(l:List (Int×aQ)) (prev:Int) (acc:List aQ),-1<=prev->rise n prev l=true->∀i:Nat,(i:Int)<=prev->(Jn acc l)[i]? =acc[i]?
 | [],_,_,_,_,_,_=>rfl
 |x::l,prev,acc,z,h,i,A=>by
  simp only[rise,aIb,aLq] at h;have u:=h.1;unfold badP at u;simp at u;show (Jn (acc.set x.1.toNat x.2) l)[i]? =_;rw[Po l x.1 _ (by omega) h.2 i (by omega),aK4 (by omega)]
theorem aAa{n:Int}:∀(l:List (Int×aQ)) (prev:Int) (acc:List aQ),-1<=prev->rise n prev l=true->(n<=acc.length)->∀p∈l,(Jn acc l)[p.1.toNat]? =some p.2
 | [],_,_,_,_,_,p,u=>by simp at u
 |x::l,prev,acc,B,h,A,p,u=>by
  simp only[rise,aIb,aLq] at h;have z:=h.1;unfold badP at z;simp at z;show (Jn (acc.set x.1.toNat x.2) l)[p.1.toNat]? =_;rcases aF3.1 u with rfl | u
  ·rw[Po l p.1 _ (by omega) h.2 _ (by omega),aLt (by omega)]
  ·exact aAa l x.1 _ (by omega) h.2 (by rw[aM0];exact A) p u
theorem Uy{n:Int}:∀(l:List (Int×aQ)) (prev:Int),prev<n->rise n prev l=true->(l.length:Int)<=n - 1 - prev
 | [],_,z,_=>by simp;omega
 |x::l,prev,z,h=>by
  simp only[rise,aIb,aLq] at h;have u:=h.1;unfold badP at u;simp at u;have:=Uy l x.1 (by omega) h.2;simp only[aIa];omega
variable {n:Nat}{snaps:List (List aQ)}
theorem aHv{ps:List (Int×aQ)}{base:List aQ}(hr:rise (base.length:Int) (-1) ps=true)(hb:base.length<=32):∀q∈pkts ps base [],ChgOk q:=by
 intro q u;unfold pkts at u;obtain⟨p,A,rfl⟩:=aK3.1 u;have B:=Go.PlPn.rise_mem hr p (aMs.1 A).1;unfold Rw;split
 ·exact⟨by simp only;omega,by simp,by simp,fun _=>rfl⟩
 ·split
  ·rename_i z;have:=aOn z;exact⟨by simp only;omega,by simp,by simp only;omega,fun _=>rfl⟩
  ·split
   ·rename_i h;simp at h
   ·exact⟨by simp only;omega,by simp,by simp,fun h=>by simp at h⟩
theorem aFh{ps:List (Int×aQ)}{base:List aQ}:∀x∈sV (pkts ps base []),∃p∈ps,x=p.2:=by
 intro x A;unfold sV at A;obtain⟨q,z,rfl⟩:=aK3.1 A;obtain⟨z,u⟩:=aMs.1 z;unfold pkts at z;obtain⟨p,E,rfl⟩:=aK3.1 z;refine⟨p,(aMs.1 E).1,?_⟩;unfold Rw at u ⊢;split at u
 ·simp at u
 ·rename_i B;rw[aD0 B];split at u
  ·simp at u
  ·rename_i C;rw[aD0 C];split at u
   ·rename_i h;simp at h
   ·rename_i D;rw[aD0 D]
theorem Kf{f:Fm}(h1:0<=f.1/\f.1<=15)(h2:f.2.1.length<=9)(h3:f.2.2.length<=32)(h4:∀x∈f.2.1,0<=x/\x<=2147483647):cZ f=0:=by
 have u:dH f=0:=by
  unfold dH;rw[aD0 (by omega),aD0 (by omega),aD0];intro z;obtain⟨x,A,h⟩:=aNn.1 z;have:=h4 x A;rw[Go.PlFr.bad_no.2 this] at h;cases h
 unfold cZ;rw[aF2 u,aD0 (by omega)]
theorem aHw{b:Int×List (Int×aQ)×List (Int×List (Int×aQ))×Bool}{now:List aQ}{past:List (Int×List aQ)}{have_:Nat}{k:Int}(he:EpM n b now snaps)(h0:1<=n)(h1:n<=32)(hh:snaps.length=have_+1)(hbig:have_<=2147483647)
  (hbk:∀s∈snaps,∀x∈s,yB x) (hpast:∀j l,eV past j=some l->0<=j/\j<=have_/\l=snaps.getD j.toNat []) (hlast:eV past (have_:Int)=some (snaps.getD have_ [])) (hk: -1<=k/\k<have_):
  ∃m,(∀b0 b3 b4 b7 b8 b10 b11 b12 b13 b14 b15 b16 b17 b18 b19 b20 b21,cY b0 (n:Int) (have_:Int) b3 b4 b past b7 b8 k b10 b11 b12 b13 b14 b15 b16 b17 b18 b19 b20 b21=some m)/\
   ∀cur:Int,0<=cur->cur<have_->(k= -1\/cur=k)->NewsAt n snaps cur have_ m:=by
 have S:b.1=have_:=by have:=he.num;omega
 have I:∀i:Nat,i<snaps.length->snaps.getD i []∈snaps:=fun i M=>by
  rw[aEg,aCl M];exact aKu _
 have O:∀i:Nat,i<snaps.length->(snaps.getD i []).length=n:=fun i M=>he.len _ (I i M);have F:∀cur:Int,0<=cur->cur<have_->NewsAt n snaps cur have_ ((5:Int),[(have_:Int)],snaps.getD have_ []):=fun cur A B=>
  ⟨B,A,by omega,Kf (by simp) (by simp) (by have:=O have_ (by omega);simp only;omega) (fun x C=>by simp at C;omega),fun x C=>hbk _ (I have_ (by omega)) x C,.inl (by simp)⟩
 have G:(eV past (have_:Int)).getD []=snaps.getD have_ []:=by rw[hlast];rfl
 by_cases T:k<0
 ·refine⟨((5:Int),[(have_:Int)],snaps.getD have_ []),?_,fun cur A B _=>F cur A B⟩
  intros
  unfold cY;rw[Go.PlEp.since_is b n k (Go.PlEp.sm_of he.may),aD0 (by rw[he.may];simp),aF2 (.inl T)];simp only[cM,Option.isNone_some,pF,jp,G]
 ·rcases he.since (k:=k) ⟨by omega,by omega⟩ with E |⟨z,E,X,D,aa⟩
  ·refine⟨((5:Int),[(have_:Int)],snaps.getD have_ []),?_,fun cur A B _=>F cur A B⟩
   intros
   unfold cY;rw[E];simp only[cM,aKp,aCj,pF,jp,G]
  ·cases hg:eV past k with
   |none=>
    refine⟨((5:Int),[(have_:Int)],snaps.getD have_ []),?_,fun cur A B _=>F cur A B⟩
    intros
    unfold cY;rw[E];simp only[cM,aKp,aCj,pF,jp,G,hg,aA8]
   |some u=>
    obtain⟨_,_,H⟩:=hpast k u hg;have U:u.length=n:=by rw[H];exact O _ (by omega)
    have P:planErr u []=0:=Go.PlPn.planErr_zero (by omega) (by omega) (by simp) (by simp);rw[<-U] at D;have K:=aHv D (by omega);have Q:=aFg b.1 k z u aa P D K;by_cases ab:2+(pkts z u []).length<=9
    ·refine⟨qJ (pkts z u []) k b.1,?_,fun cur A B N=>?_⟩
     ·intros
      unfold cY;rw[E];simp only[cM,aKp,aCj,jp,hg,aM3,aMn,Q];rw[aIc (by omega),aCj]
     ·have V:cur=k:=by rcases N with N | N<;>omega
      subst V;have ac:=Ux (pkts z u []);have R:Jn u z=snaps.getD b.1.toNat []:=by rw[<-X,<-H];rfl
      refine⟨by omega,A,by omega,Kf (by simp[qJ]) (by simp[qJ];omega) (by simp only[qJ];omega) (fun x C=>?_),fun x C=>?_,.inr ⟨pkts z u [],news z u,by rw[S],by omega,K,?_,?_,?_,?_⟩⟩
      ·simp only[qJ,aI9,aF3,aM1,aO3,aK3] at C;rcases C with (rfl | rfl) |⟨q,hq,rfl⟩
       ·omega
       ·omega
       ·have h:=K q hq;have a1:=h.a;have a2:=h.k;have a3:=h.f;unfold oJ;omega
      ·obtain⟨p,L,rfl⟩:=aFh x C;have:=aAa z (-1) u (by omega) D (aNp _) p L;rw[R] at this;exact hbk _ (I _ (by omega)) _ (aL3 this)
      ·rw[<-H];exact Go.PlPn.apply_pkts z u [] (by omega) (by simp) P D
      ·rw[<-H];have h1:rQ u (news z u)=Jn u (news z u):=rfl;rw[h1,Go.PlPn.setF_news (by omega) D (fun _ _=>rfl),R];congr 1;omega
      ·have h1:=Uy z (-1) (by omega) D;have h2:(news z u).length<=z.length:=aM6 _ _;omega
      ·intro p L;have:=Go.PlPn.news_ok D p L;omega
    ·refine⟨((5:Int),[(have_:Int)],snaps.getD have_ []),?_,fun cur A B _=>F cur A B⟩
     intros
     unfold cY;rw[E];simp only[cM,aKp,aCj,jp,hg,aM3,aMn,Q];rw[aBb (by omega),pF,G]
end Go.PlMi
namespace Go.PlMi
open Go Go.Sw Go.Mo Go.Pl
theorem aLf(n c:Nat)(hc:c<=64):sh .shr .u64 (n:Int) (c:Int)=((n / 2 ^ c:Nat):Int):=Go.PlTr.shru n c hc
theorem aMe{a b:Nat}(ha:a<18446744073709551616)(hb:b<18446744073709551616):ar .and .u64 (a:Int) (b:Int)=((a &&& b:Nat):Int):=by
 show IntKind.wrap .u64 ((BitVec.ofInt 64 (a:Int) &&& BitVec.ofInt 64 (b:Int)).toNat:Int)=_;simp only[rC,aO1,aMh];rw[aJm (a:=a) (by omega),aJm (a:=b) (by omega)];have:a &&& b<=a:=Nat.and_le_left;show ((a &&& b:Nat):Int) % 18446744073709551616=_;omega
theorem aBz{h:Nat}(hh:h<18446744073709551616):oR (h:Int)=some [((h / 8589934592:Nat):Int),((h / 4 % 2147483648:Nat):Int)]:=by
 unfold oR;have u:sh .shr .u64 (h:Int) (33:Int)=((h / 2 ^ 33:Nat):Int):=aLf h 33 (by omega);have z:sh .shr .u64 (h:Int) (2:Int)=((h / 2 ^ 2:Nat):Int):=aLf h 2 (by omega);have A:ar .and .u64 ((h / 2 ^ 2:Nat):Int) (2147483647:Int)=((h / 2 ^ 2 &&& 2147483647:Nat):Int):=aMe (b:=2147483647) (by omega) (by omega);have B:∀x:Nat,x &&& 2147483647=x % 2147483648:=fun x=>aNo x 31;rw[u,z,A,B,wrap_i64 (by omega),wrap_i64 (by omega)]
theorem aFi{bs:List aQ}(h0:1<=bs.length)(h1:bs.length<=32)(hb:∀b∈bs,yB b):∃x y:Int,jK bs=some [x,y]/\(0<=x/\x<=2147483647)/\(0<=y/\y<=2147483647):=by
 have B:=Go.PlTr.tree_goes bs h0;have D:=B.ne;obtain⟨u,l,z⟩:∃u l,Go.PlTr.tree bs=u++[l]:=⟨_,_,(List.dropLast_concat_getLast D).symm⟩
 have E:l.length=1:=by
  rcases B.at u [] l z with⟨_,h⟩|⟨m,r,h,_⟩
  ·exact h
  ·cases h
 obtain⟨v,rfl⟩:∃v,l=[v]:=by
  match l,E with
  | [v],_=>exact⟨v,rfl⟩
 have A:=(Go.PlTr.tree_all bs h1 [v] (by rw[z];simp)).1 v (by simp);have C:=Go.PlTr.tree_len bs;rw[z] at C;have K:u.length<=32:=by simp at C;omega
 unfold jK;rw[Go.PlTr.of_is bs hb (by omega),aD0 (by omega),cM];simp only[aA8,pF,z];have F:(((u++[[v]]).length:Nat):Int)=((u.length+1:Nat):Int):=by simp
 have G:ar .sub .i64 ((u.length+1:Nat):Int) 1=(u.length:Int):=by rw[subI (by omega)];omega
 have H:Sw.idx (u++[[v]]) (u.length:Int)=some [v]:=rD (by simp);have I:Sw.idx [v] (0:Int)=some v:=by simp[Sw.idx]
 rw[F,G,H,cM,I,cM];obtain⟨h,rfl⟩:∃h:Nat,v=h:=⟨v.toNat,by have:=A;omega⟩
 rw[aBz (by have:=A;omega),cM];exact⟨_,_,rfl,by have:=A;omega,by omega⟩
end Go.PlMi
namespace Go.PlMi
open Go Go.Sw Go.Mo Go.Pl
open Go.PlSt (nQ)
open Go.PlFr (Good bC eP cZ)
def pB(fb ob:Nat):Int:=((fb*4096+ob:Nat):Int)
theorem rZ{a b c d:Nat}(hb:b<4096)(hd:d<4096)(h:pB a b=pB c d):a=c/\b=d:=by unfold pB at h;omega
def kA(g:Nat):Fm:=((2:Int),[(g:Int)],[])
def eO(g o j:Nat)(t:List Int):Fm:=((3:Int),[(g:Int),(o:Int),(j:Int)]++t,[])
def dataF(S:Int)(q:Nat)(m:Fm):Fm:=((1:Int),[S,(q:Int),m.1]++m.2.1,m.2.2)
def zR(S:Int)(a:Nat):Fm:=((0:Int),[S,(a:Int)],[])
structure MsgOk (m:Fm):Prop where
 load:cZ m=0
 blk:∀b∈m.2.2,yB b
structure Nm where
 n:Nat
 h:Nat
 fb:Nat
 ob:Nat
 k:Nat
 q:Nat
 x:Nat
def sD(v:Nm)(s:PS)(S:Int):Prop:=∃g o:Nat,S=pB g o/\1<=g/\1<=o/\o<=v.ob/\(g<v.fb\/(g=v.fb/\S<=s.session))/\(o=v.ob->(g:Int)<=s.first)
def Hf(v:Nm)(snaps:List (List aQ))(s:PS)(f:Fm):Prop:=
 (∃g:Nat,1<=g/\g<=v.fb/\f=kA g)\/
 (∃S q m,f=dataF S q m/\MsgOk m/\sD v s S/\(S=s.session->q<v.q\/(q=v.q/\s.sender.2.2=[m]))/\(0<=s.first->S=s.receiver.1->q<=v.x/\(q=v.x->∃to,NewsAt v.n snaps v.k to m)))
def Hg(v:Nm)(snaps:List (List aQ))(s:PS)(f:Fm):Prop:=
 (∃g o j t,f=eO g o j t/\1<=g/\g<=v.fb/\1<=o/\o<=v.ob/\j<=v.k/\jK (snaps.getD j [])=some t/\(g=v.fb->o=v.ob->s.session<pB g o->j=v.k/\s.first=(v.fb:Int)/\v.x=0))\/
 (∃S a,f=zR S a/\sD v s S/\(S=s.session->a<=v.q\/(a=v.q+1/\s.sender.2.2≠ []/\s.sent<=v.k))/\(0<=s.first->S=s.receiver.1->a<=v.x))
structure NetOk (v:Nm) (snaps:List (List aQ)) (s:PS) (y:Bool×Bool×List Int):Prop where
 bytes:Bytes y.2.2
 len:y.2.2.length<=2000
 ne:y.2.2≠ []
 torn:y.2.1=true->eP y.2.2=none
 whole:y.2.1=false->∃f,Good f/\y.2.2=bC f/\(y.1=true->Hf v snaps s f)/\(y.1=false->Hg v snaps s f)
structure Inv (v:Nm) (now:List aQ) (snaps:List (List aQ)) (s:PS):Prop where
 n0:1<=v.n
 n1:v.n<=32
 en:s.n=v.n
 efn:s.fn=v.n
 eon:s.on=v.n
 efsn:s.fsn=v.n
 eosn:s.osn=v.n
 hs:snaps.length=v.h+1
 big:v.h<=100000/\v.fb<=3000/\v.ob<=3000/\v.q<=100000/\v.x<=100000
 pos:1<=v.fb/\1<=v.ob
 enum:s.fnum=v.h
 eboots:s.boots=v.fb
 eoboots:s.oboots=v.ob
 eonum:s.onum=v.k
 kh:v.k<=v.h
 seenF:nQ s.fd (snaps.getD v.h []) v.h v.fb
 seenO:nQ s.od (snaps.getD v.k []) v.k v.ob
 ep:EpM v.n s.epochs now snaps
 eblocks:s.blocks=now
 bok:∀l∈snaps,∀b∈l,yB b
 nok:∀b∈now,yB b
 past:∀p∈s.past,0<=p.1/\p.1<=v.h/\p.2=snaps.getD p.1.toNat []
 last:eV s.past (v.h:Int)=some (snaps.getD v.h [])
 idle:s.first=v.fb->s.session<pB v.fb v.ob->v.x=0
 safe:0<=s.safe/\s.safe<=v.k
 sent: -1<=s.sent/\s.sent<=v.h/\(s.sent= -1->0<v.h)
 low:s.sender.2.2=[]->s.sent<=s.safe
 session:s.session= -1\/∃o:Nat,1<=o/\o<=v.ob/\s.session=pB v.fb o/\(o=v.ob->s.first=v.fb)
 sender:(s.session= -1/\s.sender=(0,0,[])/\s.offered=[])\/(0<=s.session/\s.sender.1=s.session/\s.sender.2.1=v.q)
 queue:(s.sender.2.2=[]/\s.offered=[])\/∃m,s.sender.2.2=[m]/\s.offered=[s.sent]/\MsgOk m/\0<=s.sent
 first:(s.first= -1/\s.receiver=(0,0)/\v.x=0)\/∃g:Nat,1<=g/\g<=v.fb/\s.first=g/\s.receiver=(pB g v.ob,(v.x:Int))
 act:s.session=pB v.fb v.ob->(v.x=v.q/\(s.sender.2.2=[]->s.sent=v.k\/(s.sent= -1/\v.k<v.h))/\(∀m,s.sender.2.2=[m]->NewsAt v.n snaps v.k s.sent m))\/(v.x=v.q+1/\s.sender.2.2≠ []/\s.sent=v.k)
 net:∀y∈s.net,NetOk v snaps s y
 netl:s.net.length<=64
end Go.PlMi
namespace Go.PlMi
open Go Go.Sw Go.Mo Go.Pl
open Go.PlSt (nQ)
open Go.PlFr (Good bC eP cZ)
theorem aAb:yB aU:=⟨by simp[aU],fun x h=>by simp[aU] at h;omega⟩
def Im(n:Nat)(d1 d2:(List aQ)×(List (Int×aQ))×Int):PS:={ n:=n,fn:=n,fnum:=0,boots:=1,blocks:=List.replicate n aU,epochs:=(0,[],[],true),past:=[(0,List.replicate n aU)],session:= -1,sender:=(0,0,[]),sent:=0,safe:=0,offered:=[],on:=n,onum:=0,oboots:=1,first:= -1,receiver:=(0,0),net:=[],fsn:=n,fd:=d1,osn:=n,od:=d2 }
theorem aB0{n:Nat}(h0:1<=n)(h1:n<=32){d1 d2:(List aQ)×(List (Int×aQ))×Int}(s1:nQ d1 (List.replicate n aU) 0 1)(s2:nQ d2 (List.replicate n aU) 0 1):
  Inv ⟨n,0,1,1,0,0,0⟩ (List.replicate n aU) [List.replicate n aU] (Im n d1 d2):=by
 have u:∀b∈List.replicate n aU,yB b:=fun b E=>by rw[List.eq_of_mem_replicate E];exact aAb
 have C:=Uw (m:=n) (snaps:=[List.replicate n aU]) ⟨h0,h1⟩ (num:=0) rfl (by decide) (fun s B=>by simp at B;subst B;simp);constructor
 case n0=>exact h0
 case n1=>exact h1
 case seenF=>exact s1
 case seenO=>exact s2
 case ep=>exact C
 case bok=>intro l z;simp at z;subst z;exact u
 case nok=>exact u
 case past=>
  intro p A;simp only[Im,aMm] at A;subst A;simp
 case last=>rfl
 case session=>exact .inl rfl
 case sender=>exact .inl ⟨rfl,rfl,rfl⟩
 case queue=>exact .inl ⟨rfl,rfl⟩
 case first=>exact .inl ⟨rfl,rfl,rfl⟩
 case act=>intro h;simp[Im,pB] at h
 case net=>intro y D;simp[Im] at D
 all_goals simp[Im]
theorem aFj{v:Nm}{now:List aQ}{snaps:List (List aQ)}{s:PS}(h:Inv v now snaps s){at_:Int}{b:aQ}(ha:0<=at_/\at_<v.n)(hb:yB b):
  ∃s',kR at_ b s=some (none,s')/\Inv v (now.set at_.toNat b) snaps s':=by
 have A:=h.ep.add (p:=(at_,b)) ha;have B:=Go.PlEp.add_ok h.ep.may (p:=(at_,b)) ha;obtain⟨z,D,_⟩:=xX (l:=s.blocks) (n:=at_) ha.1 (by rw[h.eblocks,h.ep.nowl];exact ha.2);refine⟨{ s with blocks:=s.blocks.set at_.toNat b,epochs:=(s.epochs.1,Go.PlEp.putF s.epochs.2.1 (at_,b),s.epochs.2.2.1,s.epochs.2.2.2) },?_,?_⟩
 ·unfold kR eD;rw[h.en,B];simp only[cM,aA8,pF,D]
 ·exact { h with
   ep:=A
   eblocks:=by rw[<-h.eblocks]
   nok:=fun x u=>by
    rcases aNz u with u | rfl
    ·exact h.nok x u
    ·exact hb
   net:=fun y C=>by
    have:=h.net y C
    exact⟨this.bytes,this.len,this.ne,this.torn,this.whole⟩}
theorem aAc{v:Nm}{now:List aQ}{snaps:List (List aQ)}{s:PS}(h:Inv v now snaps s){at_:Int}{b:aQ}(ha:at_<0\/at_>=v.n):kR at_ b s=some (some 1,s):=by
 have u:=Go.PlEp.add_is s.epochs (v.n:Int) (at_,b) (Go.PlEp.sm_of h.ep.may);rw[aD0 (by rw[h.ep.may];simp),aF2 ha] at u;unfold kR eD;rw[h.en,u];simp only[cM,aM3,aCj];rw[<-h.en]
theorem aHx{v:Nm}{now:List aQ}{snaps:List (List aQ)}{s:PS}(h:Inv v now snaps s){at_:Int}(ha:0<=at_/\at_<v.n):nR at_ s=some (now.getD at_.toNat [],none,s):=by
 obtain⟨z,u,A⟩:=xX (l:=now) (n:=at_) ha.1 (by rw[h.ep.nowl];exact ha.2);unfold nR fE;rw[h.en,h.eblocks,cl,cge,aBb (by omega),pF,aBb (by omega)];simp only[cM,pF,u];congr 2;rw[aEg,A];rfl
theorem aFk{v:Nm}{now:List aQ}{snaps:List (List aQ)}{s:PS}(h:Inv v now snaps s){at_:Int}(ha:at_<0\/at_>=v.n):nR at_ s=some (aU,some 1,s):=by
 unfold nR fE;rw[h.en,cl,cge];by_cases u:at_<0
 ·rw[aIc u];simp
 ·rw[aBb u,aIc (by omega)];simp
theorem Pp{β:Type}{k j:Int}(hj:j≠k):∀m:List (Int×β),eV (Ez m k) j=eV m j
 | []=>rfl
 | (a,b)::m=>by
  have h:=Pp hj m;unfold Ez at h ⊢;simp only[aIx,kp];by_cases u:a=k
  ·subst u;simp only[aKi,List.eraseIdx_cons_zero,eV];rw[aD0 (fun e=>hj e.symm)]
  ·rw[aD0 u];cases hk:kp (m.map (·.1)) k with
   |none=>simp
   |some q=>
    rw[hk] at h;simp only[aLm,List.eraseIdx_cons_succ,eV];split
    ·rfl
    ·exact h
theorem aFl{β:Type}{k:Int}{m:List (Int×β)}{p:Int×β}(h:p∈Ez m k):p∈m:=by
 unfold Ez at h;split at h
 ·exact List.mem_of_mem_eraseIdx h
 ·exact h
theorem Hh{β:Type}{j:Int}{l:β}:∀{m:List (Int×β)},eV m j=some l->(j,l)∈m
 | [],h=>by cases h
 | (a,b)::m,h=>by
  unfold eV at h;split at h
  ·rename_i e;subst e;cases h;exact aJ8
  ·exact aI8 _ (Hh h)
theorem Uz{β:Type}{j:Int}{l:β}:∀{m:List (Int×β)},eV m j=none->eV (m++[(j,l)]) j=some l
 | [],_=>by simp[eV]
 | (a,b)::m,h=>by
  unfold eV at h;split at h
  ·cases h
  ·rename_i e;simp only[aKr,eV];rw[aD0 e];exact Uz h
theorem aAd{n:Int}:∀(l:List (Int×aQ)) (last:Int),last<n->Go.PlEp.risB n last l=true->(l.length:Int)<=n - 1 - last
 | [],last,A,_=>by simp;omega
 |x::l,last,A,h=>by
  have u:=Go.PlEp.ris_bounds n (x::l) last h x (by simp);have z:Go.PlEp.risB n x.1 l=true:=by
   unfold Go.PlEp.risB at h;split at h
   ·cases h
   ·exact h
  have:=aAd l x.1 u.2 z;simp only[aIa];omega
end Go.PlMi
namespace Go.PlMi
open Go Go.Sw Go.Mo Go.Pl
open Go.PlSt (nQ rQ)
open Go.PlEp (tM Dt Bf Kc)
open Go.PlFr (Good bC eP cZ)
theorem NewsAt.mono{n:Nat}{snaps:List (List aQ)}{cur to:Int}{m:Fm}(h:NewsAt n snaps cur to m)(x:List aQ):NewsAt n (snaps++[x]) cur to m:=by
 have u:=h.lt;have z:=h.nn;have A:=h.le;refine⟨u,z,by simp;omega,h.load,h.blk,?_⟩;rw[tM (by omega),tM (by omega)];exact h.say
theorem NetOk.mono{v:Nm}{snaps:List (List aQ)}{s s':PS}{y:Bool×Bool×List Int}(h:NetOk v snaps s y)(x:List aQ)(hk:v.k<snaps.length)(e1:s'.session=s.session)(e2:s'.sender=s.sender)(e3:s'.first=s.first)(e4:s'.receiver=s.receiver)(e5:s'.sent=s.sent)(hh:Nat):
  NetOk { v with h:=hh } (snaps++[x]) s' y:=by
 refine⟨h.bytes,h.len,h.ne,h.torn,fun N=>?_⟩;obtain⟨f,P,Q,R,T⟩:=h.whole N;refine⟨f,P,Q,fun C=>?_,fun C=>?_⟩
 ·rcases R C with⟨g,u,z,A⟩|⟨S,q,m,u,z,A,B,K⟩
  ·exact .inl ⟨g,u,z,A⟩
  ·refine .inr ⟨S,q,m,u,z,?_,?_,?_⟩
   ·obtain⟨g,o,D,E,F,G,H,I⟩:=A;exact⟨g,o,D,E,F,G,by rw[e1];exact H,by rw[e3];exact I⟩
   ·rw[e1,e2];exact B
   ·rw[e3,e4];intro L M;obtain⟨U,V⟩:=K L M;exact⟨U,fun O=>by obtain⟨X,d4⟩:=V O;exact⟨X,d4.mono x⟩⟩
 ·rcases T C with⟨g,o,j,t,u,z,A,B,K,a6,a7,a8⟩|⟨S,a,u,z,A,B⟩
  ·refine .inl ⟨g,o,j,t,u,z,A,B,K,a6,?_,?_⟩
   ·rw[tM (by omega)];exact a7
   ·rw[e1,e3];exact a8
  ·refine .inr ⟨S,a,u,?_,?_,?_⟩
   ·obtain⟨g,o,D,E,F,G,H,I⟩:=z;exact⟨g,o,D,E,F,G,by rw[e1];exact H,by rw[e3];exact I⟩
   ·rw[e1,e2,e5];exact A
   ·rw[e3,e4];exact B
theorem Xm{v:Nm}{now:List aQ}{snaps:List (List aQ)}{s:PS}(h:Inv v now snaps s)(hb:v.h+1<=100000):
  ∃s',pR s=some (none,s')/\Inv { v with h:=v.h+1 } now (snaps++[now]) s':=by
 have aa:=h.big;have ab:=h.kh;have ac:=h.hs;have ad:=h.n1;have ae:=h.n0;have I:s.epochs.1=v.h:=by have:=h.ep.num;omega
 obtain⟨k1,k2,k3,k4,k5,F,k7,k8,k9⟩:=Go.PlEp.bmay_ok h.ep.may;have K:snaps.getD v.h []∈snaps:=by
  rw[aEg,aCl (by omega)];exact aKu _
 have L:(snaps.getD v.h []).length=v.n:=h.ep.len _ K;have af:=aAd s.epochs.2.1 (-1) (by omega) F;have M:=Go.PlEp.ris_bounds v.n s.epochs.2.1 _ F;obtain⟨V,G,H,_⟩:=Mx h.seenF (by omega) (by omega) (by omega) s.epochs.2.1 ((v.h+1:Nat):Int) (by omega) (by omega) (fun p u=>by have:=M p u;omega);have N:rQ (snaps.getD v.h []) s.epochs.2.1=now:=by
  have:=h.ep.open_;rw[I,aCk] at this;exact this
 rw[N,aCk] at G;rw[L] at H;have O:=Go.PlEp.seal_ok h.ep.may (by omega);have hnone:eV s.past ((v.h+1:Nat):Int)=none:=by
  cases hg:eV s.past ((v.h+1:Nat):Int) with
  |none=>rfl
  |some l=>have:=h.past _ (Hh hg);simp only at this;omega
 have E:Fx s.past ((v.h+1:Nat):Int) now=some (s.past++[(((v.h+1:Nat):Int),now)]):=by unfold Fx;rw[hnone]
 obtain⟨_,X⟩:=Je (blocks:=now) s.past (v.h+1) (by have:=h.ep.nowl;omega) (by omega) (by rw[E];rfl);have P:ar .add .i64 s.fnum (1:Int)=((v.h+1:Nat):Int):=by rw[h.enum,nxt (by omega)]
 refine⟨{ s with fnum:=((v.h+1:Nat):Int),epochs:=Bf s.epochs,past:=oH s.past ((v.h+1:Nat):Int) now,fsn:=v.n,fd:=V },?_,?_⟩
 ·unfold pR fA;rw[P,h.eboots,h.efsn,H,cM];simp only[aA8,pF];rw[h.efn,O,cM,h.eblocks];simp only[];rw[X,cM];rfl
 ·have D:(snaps++[now]).getD (v.h+1) []=now:=Dt (by omega);have Q:(snaps++[now]).getD v.k []=snaps.getD v.k []:=tM (by omega);have hrem:oH s.past ((v.h+1:Nat):Int) now=Ez (s.past++[(((v.h+1:Nat):Int),now)]) (((v.h+1:Nat):Int) - 5):=by unfold oH;rw[E];rfl
  exact { h with
   hs:=by simp;omega
   big:=by simp only;omega
   enum:=rfl
   kh:=by simp only;omega
   seenF:=by rw[D];exact G
   seenO:=by rw[Q];exact h.seenO
   efsn:=rfl
   ep:=h.ep.shut (by omega)
   bok:=fun l z=>by
    rcases aI9.1 z with z | z
    ·exact h.bok l z
    ·simp at z;subst z;exact h.nok
   past:=fun p u=>by
    simp only at u ⊢;rw[hrem] at u;rcases aI9.1 (aFl u) with u | u
    ·obtain⟨A,C,B⟩:=h.past p u;exact⟨A,by omega,by rw[tM (by omega)];exact B⟩
    ·simp only[aMm] at u;subst u;exact⟨by simp only;omega,by simp only;omega,by simp only;rw[aCk,D]⟩
   last:=by
    simp only;rw[hrem,Pp (by omega),Uz hnone,D]
   sent:=by have:=h.sent;simp only;omega
   act:=fun R=>by
    rcases h.act R with⟨A,C,B⟩|⟨A,C,B⟩
    ·refine .inl ⟨A,fun S=>?_,fun m T=>(B m T).mono now⟩;rcases C S with c |⟨c1,c2⟩
     ·exact .inl c
     ·exact .inr ⟨c1,by simp only;omega⟩
    ·exact .inr ⟨A,C,B⟩
   net:=fun y U=>by
    refine NetOk.mono (s:=s) (h.net y U) now (by omega) ?_ ?_ ?_ ?_ ?_ (v.h+1)<;>rfl }
end Go.PlMi
namespace Go.PlMi
open Go Go.Sw Go.Mo Go.Pl
open Go.PlFr (Good bC eP cZ)
def Va(a:Int):Prop:= -9223372036854775808<=a/\a<=9223372036854775807
theorem aFm{a:Int}(h:Va a):∃k:Nat,max a (IntKind.wrap .i64 (0 - (ar .add .i64 a (1:Int))))=(k:Int)/\(a=0->k=0):=by
 unfold Va at h;by_cases u:a=9223372036854775807
 ·subst u;have z:ar .add .i64 (9223372036854775807:Int) 1= -9223372036854775808:=by decide+kernel
  have A:IntKind.wrap .i64 (0 - (-9223372036854775808:Int))= -9223372036854775808:=by decide+kernel
  rw[z,A];exact⟨9223372036854775807,by omega,fun c=>by omega⟩
 ·rw[addI (by omega),wrap_i64 (by omega)];exact⟨(max a (0 - (a+1))).toNat,by omega,fun c=>by omega⟩
theorem NetOk.same{v:Nm}{snaps:List (List aQ)}{s s':PS}{y:Bool×Bool×List Int}(h:NetOk v snaps s y)(e1:s'.session=s.session)(e2:s'.sender=s.sender)(e3:s'.first=s.first)(e4:s'.receiver=s.receiver)(e5:s'.sent=s.sent):NetOk v snaps s' y:=by
 refine⟨h.bytes,h.len,h.ne,h.torn,fun z=>?_⟩;obtain⟨f,A,B,C,D⟩:=h.whole z;refine⟨f,A,B,fun u=>?_,fun u=>?_⟩
 ·have:=C u;unfold Hf sD at this ⊢;rw[e1,e2,e3,e4];exact this
 ·have:=D u;unfold Hg sD at this ⊢;rw[e1,e2,e3,e4,e5];exact this
variable {v:Nm}{now:List aQ}{snaps:List (List aQ)}{s:PS}
theorem Inv.setNet(h:Inv v now snaps s){l:List (Bool×Bool×List Int)}(hl:l.length<=64)(hm:∀y∈l,NetOk v snaps s y):Inv v now snaps { s with net:=l }:=
 { h with
  net:=fun y u=>(hm y u).same rfl rfl rfl rfl rfl
  netl:=hl }
theorem Hi(h:Inv v now snaps s){a:Int}(ha:Va a):(s.net=[]/\iX a s=some (0,false,s))\/∃i:Nat,i<s.net.length/\iX a s=some ((i:Int),true,s)/\
  (∀b0 b1 b2 b3 b4 b5 b6 b7 b8 b9 b10 b11 b12 b13 b14 b15 b16 b18 b19 b20 b21,bP a b0 b1 b2 b3 b4 b5 b6 b7 b8 b9 b10 b11 b12 b13 b14 b15 b16 s.net b18 b19 b20 b21=some ((i:Int),true))/\(a=0->i=0):=by
 by_cases u:s.net=[]
 ·refine .inl ⟨u,?_⟩;unfold iX bP;rw[u];rfl
 ·right;have A:0<s.net.length:=aLj.2 u;obtain⟨k,C,D⟩:=aFm ha;have z:∀b0 b1 b2 b3 b4 b5 b6 b7 b8 b9 b10 b11 b12 b13 b14 b15 b16 b18 b19 b20 b21,bP a b0 b1 b2 b3 b4 b5 b6 b7 b8 b9 b10 b11 b12 b13 b14 b15 b16 s.net b18 b19 b20 b21=some (((k % s.net.length:Nat):Int),true):=by
   intros
   unfold bP;rw[ce,aBb (by omega),pF,C];have B:nz ((s.net.length:Nat):Int)=some ():=by unfold nz;rw[aD0 (by omega)]
   rw[B,cM];rfl
  refine⟨k % s.net.length,aM4 _ A,?_,z,fun c=>by rw[D c];exact Nat.zero_mod _⟩;unfold iX;rw[z];rfl
theorem aAe{α:Type}(l:List α)(i:Nat)(hi:i<l.length):Sw.del l (i:Int) ((i+1:Nat):Int)=some (l.take i++l.drop (i+1)):=by
 unfold Sw.del Sw.sub;rw[aF2 (by omega)];simp
theorem Pq{l:List (Bool×Bool×List Int)}(hl:l.length<=1000):cJ l=some l:=by
 unfold cJ;rw[app_small _ _ (by simp;omega)];rfl
theorem aHy(h:Inv v now snaps s){a:Int}(ha:Va a):∃s',qI a s=some (none,s')/\Inv v now snaps s':=by
 rcases Hi h ha with⟨C,u⟩|⟨i,A,u,B,D⟩
 ·refine⟨{ s with net:=s.net },?_,h⟩;unfold iX at u;unfold qI fG;cases hq:bP a s.n s.fn s.fnum s.boots s.blocks s.epochs s.past s.session s.sender s.sent s.safe s.offered s.on s.onum s.oboots s.first s.receiver s.net s.fsn s.fd s.osn s.od with
  |none=>rw[hq] at u;cases u
  |some q=>
   rw[hq] at u;simp only[cM,aD2,aKq] at u;simp only[cM,jp,u.2.1,pF]
 ·refine⟨{ s with net:=s.net.take i++s.net.drop (i+1) },?_,h.setNet (by have:=h.netl;simp;omega) (fun y z=>h.net y (by
   rcases aI9.1 z with z | z
   ·exact aMx z
   ·exact aNy z))⟩
  unfold qI fG cD;rw[B,cM];simp only[jp,aCj];rw[Pq (by have:=h.netl;omega),cM,nxt (by have:=h.netl;omega),aAe _ _ A];rfl
theorem aB1(h:Inv v now snaps s){a:Int}(ha:Va a):∃s',kU a s=some (none,s')/\Inv v now snaps s':=by
 rcases Hi h ha with⟨E,u⟩|⟨i,B,u,A,F⟩
 ·refine⟨{ s with net:=s.net },?_,h⟩;unfold iX at u;unfold kU dU;cases hq:bP a s.n s.fn s.fnum s.boots s.blocks s.epochs s.past s.session s.sender s.sent s.safe s.offered s.on s.onum s.oboots s.first s.receiver s.net s.fsn s.fd s.osn s.od with
  |none=>rw[hq] at u;cases u
  |some q=>
   rw[hq] at u;simp only[cM,aD2,aKq] at u;simp only[cM,jp,u.2.1,pF]
 ·have C:=h.netl;by_cases D:s.net.length<64
  ·refine⟨{ s with net:=s.net++[s.net[i]] },?_,h.setNet (by simp;omega) (fun y z=>h.net y (by
    rcases aI9.1 z with z | z
    ·exact z
    ·simp at z;subst z;exact aKu _))⟩
   unfold kU dU;rw[A,cM];simp only[jp,aCj,cl];rw[aIc (by omega),cM,aCj,rD (aCl B),cM,app_small _ _ (by simp;omega)];rfl
  ·refine⟨{ s with net:=s.net },?_,h⟩;unfold kU dU;rw[A,cM];simp only[jp,aCj,cl];rw[aBb (by omega)];simp only[cM,pF]
end Go.PlMi
namespace Go.PlMi
open Go Go.Sw Go.Mo Go.Pl
open Go.PlFr (Good bC eP cZ)
variable {v:Nm}{now:List aQ}{snaps:List (List aQ)}{s:PS}
theorem or1:∀a:Fin 256,ar .or .u8 ((a.1:Nat):Int) 1=((a.1 ||| 1:Nat):Int):=by decide+kernel
theorem aMf{b:Int}(h:0<=b/\b<=255):ar .or .u8 b 1=((b.toNat ||| 1:Nat):Int):=by
 have:=or1 ⟨b.toNat,by omega⟩;simp only at this;rw[<-this];congr 1;omega
theorem aB2{a b:Nat}(ha:a<256)(hb:b<256):a ^^^ (b ||| 1)≠a/\a ^^^ (b ||| 1)<256:=by
 have z:b ||| 1<2 ^ 8:=aN9 (by simpa using hb) (by decide)
 have A:a ^^^ (b ||| 1)<2 ^ 8:=aMl (by simpa using ha) z;refine⟨fun h=>?_,by simpa using A⟩;have B:b ||| 1=0:=by
  have this:a ^^^ (a ^^^ (b ||| 1))=a ^^^ a:=by rw[h]
  rw[<-Nat.xor_assoc,Nat.xor_self,Nat.zero_xor] at this;exact this
 have u:(b ||| 1).testBit 0=true:=by rw[Nat.testBit_or];simp
 rw[B] at u;simp at u
theorem aB3(h:Inv v now snaps s){d:Int×Int×Int×aQ}(h1:Va d.2.1)(h2:Va d.2.2.1)(h3:yB d.2.2.2):∃s',kV d s=some (none,s')/\Inv v now snaps s':=by
 rcases Hi h h1 with⟨hn,A⟩|⟨i,L,A,M,ac⟩
 ·refine⟨{ s with net:=s.net },?_,h⟩;unfold iX at A;unfold kV dV;cases hq:bP d.2.1 s.n s.fn s.fnum s.boots s.blocks s.epochs s.past s.session s.sender s.sent s.safe s.offered s.on s.onum s.oboots s.first s.receiver s.net s.fsn s.fd s.osn s.od with
  |none=>rw[hq] at A;cases A
  |some q=>
   rw[hq] at A;simp only[cM,aD2,aKq] at A;simp only[cM,A.2.1,aMp,aCj]
 ·have hl:=h.netl;have E:=rD (aCl L);have B:=h.net _ (aKu L);generalize hy:s.net[i]=y at E B;by_cases C:y.2.1=true
  ·refine⟨{ s with net:=s.net },?_,h⟩;unfold kV dV;rw[M,cM];simp only[aLr,pF,E,cM,C,aCj]
  ·have C:y.2.1=false:=by simpa using C
   obtain⟨f,g1,I,_,_⟩:=B.whole C;have N:=B.len;have O:0<y.2.2.length:=aLj.2 B.ne;obtain⟨k,hk,_⟩:=aFm h2;have D:k % y.2.2.length<y.2.2.length:=aM4 _ O;have H:=B.bytes (y.2.2[k % y.2.2.length]) (aKu D);obtain⟨b0,K⟩:∃b0,d.2.2.2[0]? =some b0:=⟨_,aCl (by have:=h3.1;omega)⟩
   have P:=h3.2 b0 (aL3 K);have Q:Sw.idx d.2.2.2 (0:Int)=some b0:=rD (i:=0) K;generalize hzv:y.2.2[k % y.2.2.length]=z at H;have R:Sw.idx y.2.2 ((k % y.2.2.length:Nat):Int)=some z:=rD (by rw[<-hzv];exact aCl D);have hx:=aB2 (a:=z.toNat) (b:=b0.toNat) (by omega) (by omega);have S:ar .or .u8 b0 1=((b0.toNat ||| 1:Nat):Int):=aMf P;have ab:b0.toNat ||| 1<2 ^ 8:=aN9 (by omega) (by decide)
   have T:ar .xor .u8 z ((b0.toNat ||| 1:Nat):Int)=((z.toNat ^^^ (b0.toNat ||| 1):Nat):Int):=by
    rw[Go.PlFr.xor8 H (by omega),aCk]
   obtain⟨w,hw⟩:∃w:Int,w=((z.toNat ^^^ (b0.toNat ||| 1):Nat):Int):=⟨_,rfl⟩
   have F:Bytes (y.2.2.set (k % y.2.2.length) w):=fun x u=>by
    rcases aNz u with u | rfl
    ·exact B.bytes x u
    ·omega
   have U:NetOk v snaps s (y.1,true,y.2.2.set (k % y.2.2.length) w):=by
    refine⟨F,by simp only[aM0];exact N,fun G=>by have:=congrArg List.length G;simp only[aM0,aKb] at this;omega,fun _=>?_,fun hf=>by cases hf⟩;simp only[I] at F D ⊢;have V:Bytes ((bC f).set (k % (bC f).length) w):=F;refine Go.PlFr.torn g1 D (by omega) (fun G=>?_) V;have:(bC f)[k % (bC f).length]=z:=by rw[<-hzv];simp only[I]
    rw[this] at G;omega
   refine⟨{ s with net:=s.net.set i (y.1,true,y.2.2.set (k % y.2.2.length) w) },?_,h.setNet (by simp;omega) (fun x u=>?_)⟩
   ·unfold kV dV mM;rw[M,cM];have X:nz ((y.2.2.length:Nat):Int)=some ():=by unfold nz;rw[aD0 (by omega)]
    have aa:ar .rem .i64 (k:Int) (y.2.2.length:Int)=((k % y.2.2.length:Nat):Int):=rfl;simp only[aLr,pF,E,cM,C];rw[app_small _ _ (by simp;omega),aKn,cM,X,cM,hk,aa,R,cM,Q,cM];simp only[cM,S,T,<-hw,aCk]
   ·rcases aNz u with u | rfl
    ·exact h.net x u
    ·exact U
end Go.PlMi
namespace Go.PlMi
open Go Go.Sw Go.Mo Go.Pl
open Go.PlSt (nQ)
open Go.PlFr (Good bC eP cZ)
variable {v:Nm}{now:List aQ}{snaps:List (List aQ)}{s:PS}
theorem yC(a b:Nat):0<=pB a b:=by unfold pB;omega
theorem aB4(h:Inv v now snaps s)(hb:v.fb+1<=3000)(a1:Int×Int×Int×aQ):
  ∃s',kB a1 s.n s.fn s.fnum s.boots s.blocks s.epochs s.past s.session s.sender s.sent s.safe s.offered s.on s.onum s.oboots s.first s.receiver s.net s.fsn s.fd s.osn s.od=some (aU,none,tup s')/\s'.net=s.net/\
   Inv { v with fb:=v.fb+1,q:=0 } (snaps.getD v.h []) snaps s':=by
 have aa:=h.big;have ab:=h.kh;have P:=h.hs;have Q:=h.n1;have R:=h.n0;have K:snaps.getD v.h []∈snaps:=by
  rw[aEg,aCl (by omega)];exact aKu _
 have T:(snaps.getD v.h []).length=v.n:=h.ep.len _ K;have L:=Uv h.seenF (by omega) (by omega);obtain⟨X,sn,_,N⟩:=Hb h.seenF (by omega) (by omega) (by omega) (by omega);rw[T] at L N;refine⟨{ s with fn:=v.n,fnum:=(v.h:Int),boots:=((v.fb+1:Nat):Int),blocks:=snaps.getD v.h [],epochs:=((v.h:Int),[],[],true),past:=[((v.h:Int),snaps.getD v.h [])],session:= -1,sender:=(0,0,[]),sent:=0,safe:=0,offered:=[],fsn:=v.n,fd:=X },?_,rfl,?_⟩
 ·unfold kB;rw[h.efsn,h.en,L,cM];simp only[uV,aKp,aCj,jp];rw[N,cM];rfl
 ·exact { h with
   big:=by simp only;omega
   pos:=by have:=h.pos;simp only;omega
   efn:=rfl
   enum:=rfl
   eboots:=rfl
   seenF:=sn
   efsn:=rfl
   ep:=Uw ⟨R,Q⟩ P (by omega) h.ep.len
   eblocks:=rfl
   nok:=h.bok _ K
   past:=fun p M=>by
    simp only[aMm] at M;subst M;exact⟨by simp only;omega,by simp only;omega,by simp only;rw[aCk]⟩
   low:=fun _=>aNp _
   last:=by simp only;unfold eV;simp[kp]
   idle:=fun c=>by
    simp only at c;rcases h.first with⟨H,_⟩|⟨g,H,c2,O,_⟩<;>omega
   safe:=by simp only;omega
   sent:=by simp only;omega
   session:= .inl rfl
   sender:= .inl ⟨rfl,rfl,rfl⟩
   queue:= .inl ⟨rfl,rfl⟩
   first:=by
    rcases h.first with c |⟨g,H,c2,O,c4⟩
    ·exact .inl c
    ·exact .inr ⟨g,H,by simp only;omega,O,c4⟩
   act:=fun U=>by have:=yC (v.fb+1) v.ob;simp only at U;omega
   net:=fun y u=>by
    have u:=h.net y u;refine⟨u.bytes,u.len,u.ne,u.torn,fun V=>?_⟩;obtain⟨f,g1,g2,g3,g4⟩:=u.whole V;refine⟨f,g1,g2,fun hb=>?_,fun hb=>?_⟩
    ·rcases g3 hb with⟨g,a1,z,A⟩|⟨S,q,m,a1,z,A,B,I⟩
     ·exact .inl ⟨g,a1,by simp only;omega,A⟩
     ·obtain⟨g,o,C,D,E,F,b5,G⟩:=A;refine .inr ⟨S,q,m,a1,z,⟨g,o,C,D,E,F,.inl (by simp only;omega),G⟩,fun c=>?_,I⟩;have:=yC g o;simp only at c;omega
    ·rcases g4 hb with⟨g,o,j,t,a1,z,A,B,I,a6,a7,a8⟩|⟨S,a,a1,z,A,B⟩
     ·exact .inl ⟨g,o,j,t,a1,z,by simp only;omega,B,I,a6,a7,fun c=>by simp only at c;omega⟩
     ·obtain⟨g,o,C,D,E,F,b5,G⟩:=z;refine .inr ⟨S,a,a1,⟨g,o,C,D,E,F,.inl (by simp only;omega),G⟩,fun c=>?_,B⟩
      have:=yC g o;simp only at c;omega }
theorem aB5(h:Inv v now snaps s)(hb:v.ob+1<=3000)(a1:Int×Int×Int×aQ):
  ∃s',jT a1 s.n s.fn s.fnum s.boots s.blocks s.epochs s.past s.session s.sender s.sent s.safe s.offered s.on s.onum s.oboots s.first s.receiver s.net s.fsn s.fd s.osn s.od=some (aU,none,tup s')/\s'.net=s.net/\
   Inv { v with ob:=v.ob+1,x:=0 } now snaps s':=by
 have aa:=h.big;have ab:=h.kh;have ac:=h.hs;have ad:=h.n1;have ae:=h.n0;have M:snaps.getD v.k []∈snaps:=by
  rw[aEg,aCl (by omega)];exact aKu _
 have N:(snaps.getD v.k []).length=v.n:=h.ep.len _ M;have I:=Uv h.seenO (by omega) (by omega);obtain⟨P,Q,_,K⟩:=Hc h.seenO (by omega) (by omega) (by omega) (by omega);rw[N] at I K;refine⟨{ s with on:=v.n,onum:=(v.k:Int),oboots:=((v.ob+1:Nat):Int),first:= -1,receiver:=(0,0),osn:=v.n,od:=P },?_,rfl,?_⟩
 ·unfold jT;rw[h.eosn,h.en,I,cM];simp only[uV,aKp,aCj,jp];rw[K,cM];rw[<-h.en];rfl
 ·exact { h with
   big:=by simp only;omega
   pos:=by have:=h.pos;simp only;omega
   eon:=rfl
   eonum:=rfl
   eoboots:=rfl
   seenO:=Q
   eosn:=rfl
   session:=by
    rcases h.session with c |⟨o,L,c2,H,c4⟩
    ·exact .inl c
    ·exact .inr ⟨o,L,by simp only;omega,H,fun c=>by simp only at c;omega⟩
   first:= .inl ⟨rfl,rfl,rfl⟩
   idle:=fun _ _=>rfl
   act:=fun C=>by
    simp only at C;rcases h.session with c |⟨o,L,c2,H,c4⟩
    ·have:=yC v.fb (v.ob+1);omega
    ·rw[H] at C;have:=(rZ (by omega) (by omega) C).2;omega
   net:=fun y u=>by
    have u:=h.net y u;refine⟨u.bytes,u.len,u.ne,u.torn,fun O=>?_⟩;obtain⟨f,R,T,U,V⟩:=u.whole O;refine⟨f,R,T,fun hb=>?_,fun hb=>?_⟩
    ·rcases U hb with⟨g,a1,z,A⟩|⟨S,q,m,a1,z,A,B,a5⟩
     ·exact .inl ⟨g,a1,z,A⟩
     ·obtain⟨g,o,D,E,F,X,G,b6⟩:=A;refine .inr ⟨S,q,m,a1,z,⟨g,o,D,E,F,by simp only;omega,G,fun c=>by simp only at c;omega⟩,B,fun c=>?_⟩;simp only at c;omega
    ·rcases V hb with⟨g,o,j,t,a1,z,A,B,a5,a6,a7,a8⟩|⟨S,a,a1,z,A,B⟩
     ·exact .inl ⟨g,o,j,t,a1,z,A,B,by simp only;omega,a6,a7,fun _ c=>by simp only at c;omega⟩
     ·obtain⟨g,o,D,E,F,X,G,b6⟩:=z;refine .inr ⟨S,a,a1,⟨g,o,D,E,F,by simp only;omega,G,fun c=>by simp only at c;omega⟩,A,fun c=>?_⟩
      simp only at c;omega }
end Go.PlMi
namespace Go.PlMi
open Go Go.Sw Go.Mo Go.Pl
open Go.PlSt (nQ)
open Go.PlFr (Good bC eP cZ dH rE Du lI Au qH iU Ik Mu mD Il)
variable {v:Nm}{now:List aQ}{snaps:List (List aQ)}{s:PS}
def nS(l:List (Bool×Bool×List Int))(y:Bool×Bool×List Int):List (Bool×Bool×List Int):=if l.length<64 then l++[y] else l
def Rn(s s':PS):Prop:=s'.net=s.net\/∃y,s'.net=nS s.net (false,y)
theorem Pr{l:List (Bool×Bool×List Int)}{y}(h:l.length<=64):(nS l y).length<=64:=by
 unfold nS;split
 ·simp;omega
 ·exact h
theorem aB6{l:List (Bool×Bool×List Int)}{x y}(h:x∈nS l y):x∈l\/x=y:=by
 unfold nS at h;split at h
 ·simpa using h
 ·exact .inl h
theorem packed_ne{f:Fm}(g:Good f):bC f≠ []/\(bC f).length<=1004:=by
 have z:=(qH g).2;have u:(bC f).length=(Go.PlFr.body f).length+4:=by unfold bC;rw[sM];unfold Go.PlFr.sum4;simp
 exact⟨fun h=>by rw[h] at u;simp at u,by omega⟩
theorem Hj(dir:Bool)(b:List Int)(b0 b1 b2 b3 b4 b5 b6 b7 b8 b9 b10 b11 b12 b13 b14 b15 b16 b17 b18 b19 b20 b21)(hl:b17.length<=64):
  dR dir (false,b) b0 b1 b2 b3 b4 b5 b6 b7 b8 b9 b10 b11 b12 b13 b14 b15 b16 b17 b18 b19 b20 b21=some (nS b17 (dir,false,b)):=by
 unfold dR nS;simp only[aMp,aCj,cM];by_cases h:b17.length<64
 ·have:cm .lss (b17.length:Int) (64:Int)=true:=by rw[cl];exact aIc (by omega)
  rw[this,aF2 h,aCj,app_small _ _ (by simp;omega),cM]
 ·have:cm .lss (b17.length:Int) (64:Int)=false:=by rw[cl];exact aBb (by omega)
  rw[this,aD0 h,pF]
theorem Ro{f:Fm}(g:Good f)(he:dH f=0)(dir:Bool)(b0 b1 b2 b3 b4 b5 b6 b7 b8 b9 b10 b11 b12 b13 b14 b15 b16 b17 b18 b19 b20 b21)(hl:b17.length<=64):
  iD dir f b0 b1 b2 b3 b4 b5 b6 b7 b8 b9 b10 b11 b12 b13 b14 b15 b16 b17 b18 b19 b20 b21=some (none,nS b17 (dir,false,bC f)):=by
 unfold iD;rw[Du g he,cM];have h:ne1 (bC f)=some ():=by
  unfold ne1;have:=(packed_ne g).1;cases hp:bC f with
  |nil=>exact absurd hp this
  |cons a l=>rfl
 simp only[jp,aKp,aCj];rw[h,cM,Hj _ _ _ _ _ _ _ _ _ _ _ _ _ _ _ _ _ _ _ _ _ _ _ _ hl];rfl
theorem Inv.push(h:Inv v now snaps s){y:Bool×Bool×List Int}(hy:NetOk v snaps s y):Inv v now snaps { s with net:=nS s.net y }:=
 h.setNet (Pr h.netl) (fun x u=>by
  rcases aB6 u with u | rfl
  ·exact h.net x u
  ·exact hy)
theorem Dv{f:Fm}(g:Good f)(dir:Bool)(h1:dir=true->Hf v snaps s f)(h2:dir=false->Hg v snaps s f):NetOk v snaps s (dir,false,bC f):=
 ⟨Au g,by have:=(packed_ne g).2;simp only;omega,(packed_ne g).1,fun h=>(nomatch h),fun _=>⟨f,g,rfl,h1,h2⟩⟩
theorem Xn{g:Nat}(h:g<=2147483647):dH (kA g)=0/\Good (kA g):=by
 have z:cZ (kA g)=0:=Kf (by unfold kA;simp only;omega) (by unfold kA;simp) (by unfold kA;simp) (fun x u=>by simp only[kA,aMm] at u;subst u;omega);have:=(Go.PlFr.load_frame z).1;exact⟨this,rE this (fun b A=>by simp[kA] at A)⟩
theorem data_good{S:Int}{q:Nat}{m:Fm}(hm:MsgOk m)(hS:0<=S/\S<=2147483647)(hq:q<=2147483647):Good (dataF S q m):=by
 obtain⟨u,z⟩:=Go.PlFr.load_frame hm.load;have g:=rE u hm.blk;refine⟨by unfold dataF;simp,by unfold dataF;simp,by unfold dataF;simp;omega,g.bs,fun n h=>?_,g.blk⟩;simp only[dataF,aKr,aKn,aF3] at h;rcases h with rfl | rfl | rfl | h
 ·exact hS
 ·omega
 ·have:=g.s0;have:=g.s1;omega
 ·exact g.num n h
theorem aB7(h:Inv v now snaps s)(hS:0<=s.session)(hq:s.sender.2.2=[])(hs:s.sent<v.h){m:Fm}(hm:MsgOk m)(hn:∀cur:Int,0<=cur->cur<v.h->(s.sent= -1\/cur=s.sent)->NewsAt v.n snaps cur v.h m):
  Inv v now snaps { s with sender:=(s.session,(v.q:Int),[m]),sent:=(v.h:Int),offered:=[(v.h:Int)] }:=by
 have P:=h.big
 exact { h with
  sent:=by simp only;omega
  sender:= .inr ⟨hS,rfl,rfl⟩
  low:=fun c=>by simp at c
  queue:= .inr ⟨m,rfl,rfl,hm,by simp only;omega⟩
  act:=fun G=>by
   rcases h.act G with⟨A,z,B⟩|⟨A,z,B⟩
   ·refine .inl ⟨A,fun c=>by simp at c,fun E F=>?_⟩;simp only[aO5,and_true] at F;subst F;rcases z hq with c |⟨N,Q⟩
    ·exact hn v.k (by omega) (by omega) (.inr c.symm)
    ·exact hn v.k (by omega) (by omega) (.inl N)
   ·exact absurd hq z
  net:=fun y u=>by
   have u:=h.net y u;refine⟨u.bytes,u.len,u.ne,u.torn,fun H=>?_⟩;obtain⟨f,I,K,L,M⟩:=u.whole H;refine⟨f,I,K,fun C=>?_,fun C=>?_⟩
   ·rcases L C with c |⟨S,q,E,A,z,B,D,O⟩
    ·exact .inl c
    ·refine .inr ⟨S,q,E,A,z,B,fun c=>?_,O⟩;rcases D c with c |⟨_,c⟩
     ·exact .inl c
     ·rw[hq] at c;simp at c
   ·rcases M C with c |⟨S,a,A,z,B,D⟩
    ·exact .inl c
    ·refine .inr ⟨S,a,A,z,fun c=>?_,D⟩;rcases B c with c |⟨_,c,_⟩
     ·exact .inl c
     ·exact absurd hq c }
theorem aAf{v:Nm}{now:List aQ}{snaps:List (List aQ)}{s:PS}(h:Inv v now snaps s):s.session<=2147483647:=by
 have z:=h.big;rcases h.session with c |⟨o,A,B,u,C⟩
 ·omega
 ·rw[u];unfold pB;omega
theorem Nw(h:Inv v now snaps s)(hS:0<=s.session){m:Fm}(hq:s.sender.2.2=[m])(hm:MsgOk m):Hf v snaps s (dataF s.session v.q m):=by
 have L:=h.big;rcases h.session with c |⟨o,D,E,u,F⟩
 ·omega
 ·refine .inr ⟨_,_,m,rfl,hm,⟨v.fb,o,u,h.pos.1,D,E,.inr ⟨rfl,by omega⟩,fun e=>by rw[F e];exact aNp _⟩,fun _=> .inr ⟨rfl,hq⟩,fun M z=>?_⟩;rcases h.first with⟨G,_⟩|⟨g,G,O,P,H⟩
  ·omega
  ·rw[H] at z;simp only at z;have A:=z;rw[u] at A;obtain⟨N,C⟩:=rZ (by omega) (by omega) A;rw[C] at u;rcases h.act u with⟨I,K,B⟩|⟨I,K,B⟩
   ·exact⟨by omega,fun _=>⟨_,B m hq⟩⟩
   ·exact⟨by omega,fun c=>by omega⟩
end Go.PlMi
namespace Go.PlMi
open Go Go.Sw Go.Mo Go.Pl
open Go.PlSt (nQ)
open Go.PlFr (Good bC eP cZ dH rE Du lI Au qH iU Ik Mu mD Il)
variable {v:Nm}{now:List aQ}{snaps:List (List aQ)}{s:PS}
def aJz(v:Nm)(s s':PS):Prop:=s'.first=s.first/\s'.session=s.session/\
 ((s.session<0/\s'.net=nS s.net (true,false,bC (kA v.fb)))\/
  (0<=s.session/\s'.sender.2.2=[]/\s'.sent=v.h/\s'.net=nS s.net (true,false,bC (kA v.fb)))\/
  (0<=s.session/\∃m,s'.sender.2.2=[m]/\MsgOk m/\(s.sender.2.2=[]->s'.sent=v.h)/\s'.net=nS (nS s.net (true,false,bC (kA v.fb))) (true,false,bC (dataF s.session v.q m))))
theorem aHz(h:Inv v now snaps s):∃s',lJ s=some (none,s')/\Inv v now snaps s'/\aJz v s s':=by
 have aw:=h.big;have G:=h.netl;obtain⟨he,hg⟩:=Xn (g:=v.fb) (by omega);have K:Inv v now snaps { s with net:=nS s.net (true,false,bC (kA v.fb)) }:=
  h.push (Dv hg true (fun _=> .inl ⟨v.fb,h.pos.1,aDn _,rfl⟩) (fun c=>nomatch c))
 have V:=Pr (y:=(true,false,bC (kA v.fb))) G;have L:=Ro hg he true;have ax:=aAf h;rcases h.sender with⟨F,c2,c3⟩|⟨F,c2,c3⟩
 ·
  refine⟨{ s with net:=nS s.net (true,false,bC (kA v.fb)) },?_,K,rfl,rfl,.inl ⟨by omega,rfl⟩⟩;unfold lJ dS;rw[h.eboots];have A:((2:Int),([(v.fb:Int)]:List Int),([]:List aQ))=kA v.fb:=rfl;rw[A,L _ _ _ _ _ _ _ _ _ _ _ _ _ _ _ _ _ _ _ _ _ _ G,cM];have H:cm .lss s.session (0:Int)=true:=by rw[cl];exact aIc (by omega)
  simp only[aA8,pF,cM,H,aCj]
 ·have H:cm .lss s.session (0:Int)=false:=by rw[cl];exact aBb (by omega)
  have B:s.sender=(s.session,(v.q:Int),s.sender.2.2):=by rw[<-c2,<-c3]
  have X:∀(C:PS) (m:Fm),Inv v now snaps C->C.session=s.session->C.sender=(s.session,(v.q:Int),[m])->MsgOk m->
    ∃s3,s3={ C with net:=nS C.net (true,false,bC (dataF s.session v.q m)) }/\Inv v now snaps s3:=by
   intro C m hi D e4 u;refine⟨_,rfl,hi.push (Dv (data_good u (by omega) (by omega)) true (fun _=>?_) (fun c=>nomatch c))⟩;have:=Nw hi (by rw[D];exact F) (m:=m) (by rw[e4]) u;rw[D] at this;exact this
  have aa:∀(m:Fm) (k:List (Bool×Bool×List Int)->Option ((Option Int)×(Int×Int×(List (Int×(List Int)×(List aQ))))×Int×(List Int)×(List (Bool×Bool×(List Int))))) (b0 b1 b2 b3 b4 b5 b6 b7 b8 b9 ac ad ae af ah ai aj ak al am an) (E:List (Bool×Bool×List Int)),E.length<=64->MsgOk m->
    lp (β:=(List (Bool×Bool×(List Int)))) (fun (I:Int×(List (Bool×Bool×(List Int))))=>
      bif (cm .lss I.1 (([bC (dataF s.session v.q m)]:List (List Int)).length:Int)) then
       (Sw.idx [bC (dataF s.session v.q m)] I.1).bind fun ao=>
        (ne1 ao).bind fun _=>
         (dR true (false,ao) b0 b1 b2 b3 b4 b5 b6 b7 b8 b9 ac ad ae af ah ai aj I.2 ak al am an).bind fun av=>
          some (.next ((ar .add .i64 I.1 (1:Int)),av))
      else
       some (.done (.brk I.2))
      ) ((0:Int),E) k=k (nS E (true,false,bC (dataF s.session v.q m))):=by
   intro m k b0 b1 b2 b3 b4 b5 b6 b7 b8 b9 ac ad ae af ah ai aj ak al am an E au u;have ap:=data_good u (S:=s.session) (q:=v.q) (by omega) (by omega);obtain⟨p1,p2⟩:=packed_ne ap;have aq:ne1 (bC (dataF s.session v.q m))=some ():=by
    unfold ne1;cases hp:bC (dataF s.session v.q m) with
    |nil=>exact absurd hp p1
    |cons a l=>rfl
   unfold lp;rw[show fI=1125899906842622+1+1 from rfl,Go.PlFr.loop_next (y:=((1:Int),nS E (true,false,bC (dataF s.session v.q m)))),Go.PlFr.loop_done (b:= .brk (nS E (true,false,bC (dataF s.session v.q m))))]
   ·rfl
   ·have:Sw.idx [bC (dataF s.session v.q m)] (0:Int)=some (bC (dataF s.session v.q m)):=rfl;simp only[cl,aM5];rw[aIc (by omega),aCj,this,cM,aq,cM,Hj _ _ _ _ _ _ _ _ _ _ _ _ _ _ _ _ _ _ _ _ _ _ _ _ au,cM];rfl
  have ab:∀m,MsgOk m->nW (s.session,(v.q:Int),[m])=some ([bC (dataF s.session v.q m)],none):=by
   intro m u;have P:=mD (S:=s.session) (q:=(v.q:Int)) (l:=[m]) (by omega) (by omega) (by simp) (fun f N=>by simp at N;subst N;exact u.load);rw[Mu P (by omega) u.load u.blk];have:Go.PlFr.dataF (s.session,(v.q:Int),[m]) 0 m=dataF s.session v.q m:=by unfold Go.PlFr.dataF dataF;simp
   rw[this]
  rcases h.queue with⟨z,d2⟩|⟨m,z,d2,O,d4⟩
  ·
   rw[z] at B;by_cases M:s.sent<v.h
   ·
    obtain⟨m,n1,T⟩:=aHw h.ep h.n0 h.n1 h.hs (by omega) h.bok (fun j l hl=>by have:=h.past _ (Hh hl);simpa using this) h.last (k:=s.sent) ⟨h.sent.1,M⟩;have u:MsgOk m:=by
     have:=h.sent;by_cases c:s.sent= -1
     ·have:=T 0 (by omega) (by omega) (.inl c);exact⟨this.load,this.blk⟩
     ·have:=T s.sent (by omega) (by omega) (.inr rfl);exact⟨this.load,this.blk⟩
    have h2:=aB7 K F z M u T;obtain⟨s3,D,U⟩:=X _ m h2 rfl rfl u;subst D;refine⟨_,?_,U,rfl,rfl,.inr (.inr ⟨F,m,rfl,u,fun _=>rfl,rfl⟩)⟩;unfold lJ dS;rw[h.eboots];have A:((2:Int),([(v.fb:Int)]:List Int),([]:List aQ))=kA v.fb:=rfl;rw[A,L _ _ _ _ _ _ _ _ _ _ _ _ _ _ _ _ _ _ _ _ _ _ G,cM];have Q:cm .lss s.sent s.fnum=true:=by rw[cl,h.enum];exact aIc M
    have R:cm .eql (s.sender.2.2.length:Int) (0:Int)=true:=by rw[z];rfl
    simp only[aA8,pF,cM,H,Q,R,aCj,jp];rw[h.efn,h.enum,n1,cM,B,Il (by omega) (by omega) u.load,cM];simp only[aA8,pF];rw[d2,app_small _ _ (by simp),cM];rw[ab m u,cM];simp only[];rw[aa m _ _ _ _ _ _ _ _ _ _ _ _ _ _ _ _ _ _ _ _ _ _ _ V u];simp only[cM,aKn]
   ·refine⟨{ s with net:=nS s.net (true,false,bC (kA v.fb)) },?_,K,rfl,rfl,.inr (.inl ⟨F,z,by have:=h.sent;simp only;omega,rfl⟩)⟩;unfold lJ dS;rw[h.eboots];have A:((2:Int),([(v.fb:Int)]:List Int),([]:List aQ))=kA v.fb:=rfl;rw[A,L _ _ _ _ _ _ _ _ _ _ _ _ _ _ _ _ _ _ _ _ _ _ G,cM];have Q:cm .lss s.sent s.fnum=false:=by rw[cl,h.enum];exact aBb M
    simp only[aA8,pF,cM,H,Q,aCj,jp];have P:=mD (S:=s.session) (q:=(v.q:Int)) (l:=[]) (by omega) (by omega) (by simp) (fun f N=>by simp at N);rw[B,Ik P,cM];simp only[];unfold lp;rw[show fI=1125899906842623+1 from rfl,Go.PlFr.loop_done (b:= .brk (nS s.net (true,false,bC (kA v.fb))))]
    ·simp only[cM]
    ·rfl
  ·rw[z] at B;obtain⟨s3,D,U⟩:=X _ m K rfl B O;subst D;refine⟨_,?_,U,rfl,rfl,.inr (.inr ⟨F,m,z,O,fun c=>(by rw[z] at c;cases c),rfl⟩)⟩;unfold lJ dS;rw[h.eboots];have A:((2:Int),([(v.fb:Int)]:List Int),([]:List aQ))=kA v.fb:=rfl;rw[A,L _ _ _ _ _ _ _ _ _ _ _ _ _ _ _ _ _ _ _ _ _ _ G,cM];have R:(bif (cm .lss s.sent s.fnum) then some (cm .eql (s.sender.2.2.length:Int) (0:Int)) else some false)=some false:=by
    rw[z];cases cm .lss s.sent s.fnum<;>rfl
   simp only[aA8,pF,cM,H];rw[R,cM];simp only[pF,jp];rw[B,ab m O,cM];simp only[];rw[aa m _ _ _ _ _ _ _ _ _ _ _ _ _ _ _ _ _ _ _ _ _ _ _ V O];simp only[cM]
end Go.PlMi
namespace Go.PlMi
open Go Go.Sw Go.Mo Go.Pl
open Go.PlSt (nQ xA)
open Go.PlFr (Good bC eP cZ dH rE)
variable {v:Nm}{now:List aQ}{snaps:List (List aQ)}{s:PS}
theorem aFn{g o:Nat}(hg:g<=3000)(ho:o<=3000):ar .or .i64 (sh .shl .i64 (g:Int) (12:Int)) (o:Int)=pB g o:=by
 have h:sh .shl .i64 (g:Int) (12:Int)=((g*2 ^ 12:Nat):Int):=by
  show IntKind.wrap .i64 ((g:Int)*2 ^ min ((12:Nat):Int).toNat 64)=_;rw[aCk,aLu (by omega)];have e:(g:Int)*2 ^ 12=((g*2 ^ 12:Nat):Int):=by omega
  rw[e,wrap_i64 (by omega)]
 rw[h,Go.PlSt.orI (by omega) (by omega),Go.PlSt.orP (by omega)];unfold pB;rfl
theorem aB8(h:Inv v now snaps s){g:Nat}(h1:1<=g)(h2:g<=v.fb)(h3:s.first<g):Inv { v with x:=0 } now snaps { s with first:=(g:Int),receiver:=(pB g v.ob,0) }:=by
 have aa:=h.big;have K:∀S,sD v s S->S≠pB g v.ob:=by
  rintro S ⟨C,o,G,M,N,O,P,H⟩ e;rw[G] at e;obtain⟨e1,T⟩:=rZ (by omega) (by omega) e;have:=H T;omega
 have L:∀S,sD v s S->sD { v with x:=0 } { s with first:=(g:Int),receiver:=(pB g v.ob,0) } S:=by
  rintro S ⟨C,o,G,M,N,O,P,H⟩;exact⟨C,o,G,M,N,O,P,fun e=>by have:=H e;simp only;omega⟩
 exact { h with
  big:=by simp only;omega
  idle:=fun _ _=>rfl
  session:=by
   rcases h.session with c |⟨o,c1,c2,c3,I⟩
   ·exact .inl c
   ·exact .inr ⟨o,c1,c2,c3,fun e=>by have:=I e;simp only;omega⟩
  first:= .inr ⟨g,h1,h2,rfl,rfl⟩
  act:=fun E=>by
   simp only at E;rcases h.session with c |⟨o,c1,c2,c3,I⟩
   ·have:=yC v.fb v.ob;omega
   ·rw[c3] at E;have:=I (rZ (by omega) (by omega) E).2;omega
  net:=fun y u=>by
   have u:=h.net y u;refine⟨u.bytes,u.len,u.ne,u.torn,fun R=>?_⟩;obtain⟨f,U,V,X,g4⟩:=u.whole R;refine⟨f,U,V,fun F=>?_,fun F=>?_⟩
   ·rcases X F with c |⟨S,q,m',B,z,A,D,Q⟩
    ·exact .inl c
    ·exact .inr ⟨S,q,m',B,z,L S A,D,fun _ c=>absurd c (K S A)⟩
   ·rcases g4 F with⟨C,o,j,t,B,z,A,D,Q,a6,a7,a8⟩|⟨S,a,B,z,A,D⟩
    ·refine .inl ⟨C,o,j,t,B,z,A,D,Q,a6,a7,fun c d e=>?_⟩;have:=(a8 c d e).2.1;omega
    ·exact .inr ⟨S,a,B,L S z,A,fun _ c=>absurd c (K S z)⟩}
theorem Rp{g o j:Nat}{t:List Int}(hg:g<=2147483647)(ho:o<=2147483647)(hj:j<=2147483647){x y:Int}(ht:t=[x,y])(hx:0<=x/\x<=2147483647)(hy:0<=y/\y<=2147483647):dH (eO g o j t)=0/\Good (eO g o j t):=by
 subst ht
 have u:cZ (eO g o j [x,y])=0:=Kf (by unfold eO;simp only;omega) (by unfold eO;simp) (by unfold eO;simp) (fun n h=>by
  simp only[eO,aKr,aKn,aF3,aM1,aO3] at h
  rcases h with rfl | rfl | rfl | rfl | rfl<;>omega)
 have:=(Go.PlFr.load_frame u).1;exact⟨this,rE this (fun b z=>by simp[eO] at z)⟩
theorem Em(h:Inv v now snaps s){g:Nat}(h1:1<=g)(h2:g<=v.fb)(h3:s.first=g){t:List Int}(ht:jK (snaps.getD v.k [])=some t):Hg v snaps s (eO g v.ob v.k t):=by
 have:=h.pos;exact .inl ⟨g,v.ob,v.k,t,rfl,h1,h2,h.pos.2,aDn _,aDn _,ht,fun c _ e=>⟨rfl,by rw[h3,c],h.idle (by rw[h3,c]) (by rw[c] at e;exact e)⟩⟩
theorem In(h:Inv v now snaps s)(h0:0<=s.first)(hs:s.session=s.receiver.1):s.session=pB v.fb v.ob:=by
 have B:=h.big;rcases h.first with⟨A,_⟩|⟨g,A,C,D,u⟩
 ·omega
 ·rcases h.session with c |⟨o,E,F,z,G⟩
  ·rw[u] at hs;have:=yC g v.ob;simp only at hs;omega
  ·rw[u,z] at hs;rw[z,(rZ (by omega) (by omega) hs).2]
theorem aAg(h:Inv v now snaps s)(h0:0<=s.first)(ha:sD v s s.receiver.1):Hg v snaps s (zR s.receiver.1 v.x):=by
 refine .inr ⟨_,v.x,rfl,ha,fun c=>?_,fun _ _=>aDn _⟩;rcases h.act (In h h0 c.symm) with⟨u,_⟩|⟨u,z,A⟩
 ·exact .inl (by omega)
 ·exact .inr ⟨u,z,by omega⟩
theorem aFo(h:Inv v now snaps s)(hx:v.x+1<=100000)(h0:0<=s.first)(ha:sD v s s.receiver.1){to:Nat}(hlt:v.k<to)(hle:to<=v.h){d':(List aQ)×(List (Int×aQ))×Int}(hd:nQ d' (snaps.getD to []) to v.ob)
  (hq:s.session=s.receiver.1->v.x=v.q/\s.sender.2.2≠ []/\s.sent=to):
  Inv { v with k:=to,x:=v.x+1 } now snaps { s with onum:=(to:Int),receiver:=(s.receiver.1,((v.x+1:Nat):Int)),osn:=(v.n:Int),od:=d' }:=by
 have aa:=h.big;have ab:=h.safe;have Q:s.session=pB v.fb v.ob->s.session=s.receiver.1:=by
  intro e;rcases h.session with c |⟨o,O,P,K,c4⟩
  ·have:=yC v.fb v.ob;omega
  ·rw[K] at e;have F:=(rZ (by omega) (by omega) e).2;rcases h.first with⟨z,_⟩|⟨g,z,G,H,d4⟩
   ·omega
   ·have:=c4 F;have u:g=v.fb:=by omega
    rw[d4,K,u,F]
 exact { h with
  big:=by simp only;omega
  eonum:=rfl
  kh:=hle
  seenO:=hd
  eosn:=rfl
  safe:=by simp only;omega
  idle:=fun c d=>by
   obtain⟨M,o,C,R,T,U,D,V⟩:=ha;rcases h.first with⟨z,_⟩|⟨g,z,G,H,d4⟩
   ·omega
   ·simp only at c d;have u:g=v.fb:=by omega
    rw[d4,u] at C;obtain⟨X,F⟩:=rZ (by omega) (by omega) C;rw[d4,u] at D;simp only at D;omega
  first:=by
   rcases h.first with⟨z,_⟩|⟨g,z,G,H,d4⟩
   ·omega
   ·exact .inr ⟨g,z,G,H,by simp only;rw[d4]⟩
  act:=fun e=>by
   obtain⟨a1,a2,B⟩:=hq (Q e);exact .inr ⟨by simp only;omega,a2,B⟩
  net:=fun y A=>by
   have A:=h.net y A;refine⟨A.bytes,A.len,A.ne,A.torn,fun u=>?_⟩;obtain⟨f,g1,N,g3,g4⟩:=A.whole u;refine⟨f,g1,N,fun I=>?_,fun I=>?_⟩
   ·rcases g3 I with c |⟨S,q,m',a1,a2,B,E,L⟩
    ·exact .inl c
    ·refine .inr ⟨S,q,m',a1,a2,B,E,fun c d=>?_⟩;have:=(L c d).1;exact⟨by simp only;omega,fun e=>by simp only at e;omega⟩
   ·rcases g4 I with⟨M,o,j,t,a1,a2,B,E,L,a6,a7,a8⟩|⟨S,a,a1,a2,B,E⟩
    ·refine .inl ⟨M,o,j,t,a1,a2,B,E,L,by simp only;omega,a7,fun c d e=>?_⟩;have hf:=(a8 c d e).2.1;obtain⟨N,o2,C,R,T,U,D,V⟩:=ha;rcases h.first with⟨z,_⟩|⟨g,z,G,H,d4⟩
     ·omega
     ·simp only at c d e;have u:g=v.fb:=by omega
      rw[d4,u] at C;obtain⟨X,F⟩:=rZ (by omega) (by omega) C;rw[d4,u] at D;simp only at D;rw[c,d] at e;omega
    ·refine .inr ⟨S,a,a1,a2,fun c=>?_,fun c d=>by have:=E c d;simp only;omega⟩;rcases B c with c |⟨O,P,K⟩
     ·exact .inl c
     ·exact .inr ⟨O,P,by simp only;omega⟩}
end Go.PlMi
namespace Go.PlMi
open Go Go.Sw Go.Mo Go.Pl
open Go.PlSt (nQ xA)
open Go.PlFr (Good bC eP cZ dH rE Ha Mt rF lI)
variable {v:Nm}{now:List aQ}{snaps:List (List aQ)}{s:PS}
theorem aB9(dir:Bool)(b:List Int)(b0 b1 b2 b3 b4 b5 b6 b7 b8 b9 b10 b11 b12 b13 b14 b15 b16 b17 b18 b19 b20 b21):
  dR dir (true,b) b0 b1 b2 b3 b4 b5 b6 b7 b8 b9 b10 b11 b12 b13 b14 b15 b16 b17 b18 b19 b20 b21=some b17:=rfl
theorem Jg(h:Inv v now snaps s)(h0:0<=s.first):(0<=s.receiver.1/\s.receiver.1<=2147483647)/\s.receiver.2=v.x:=by
 have A:=h.big;rcases h.first with⟨u,_⟩|⟨g,u,B,C,z⟩
 ·omega
 ·rw[z];refine⟨?_,rfl⟩;show 0<=pB g v.ob/\pB g v.ob<=2147483647;unfold pB;omega
theorem My(b:List Int)(u:Fm)(e:Option Int)(hu:eX b=some (u,e))(hn:e.isSome=true\/u.1≠2)
  (hr:0<=s.first->∃fr,nH s.receiver b=some (s.receiver,fr,false,(true,[]),none)):dP b s=some (none,s):=by
 unfold dP bW;have A:(bif Option.isNone e then bif cm .eql u.1 (2:Int) then some (cm .eql (u.2.1.length:Int) (1:Int)) else some false else some false)=some false:=by
  rcases hn with c | c
  ·cases e with
   |none=>cases c
   |some e=>rfl
  ·have:cm .eql u.1 (2:Int)=false:=by rw[ce];exact aBb c
   rw[this];cases e<;>rfl
 rw[hu,cM];simp only[];rw[A,cM];simp only[pF];by_cases z:s.first<0
 ·have h:cm .lss s.first (0:Int)=true:=by rw[cl];exact aIc z
  rw[h];simp only[aCj,cM]
 ·have h:cm .lss s.first (0:Int)=false:=by rw[cl];exact aBb z
  obtain⟨fr,hr⟩:=hr (by omega);rw[h,hr];simp only[pF,cM,aA8,jp,aB9]
def aH0(v:Nm)(snaps:List (List aQ))(s s':PS)(x':Nat):Prop:=s'.first=v.fb/\s'.session=s.session/\s'.sender=s.sender/\s'.sent=s.sent/\s'.safe=s.safe/\(s.first=v.fb->x'=v.x)/\
 ∃x y,jK (snaps.getD v.k [])=some [x,y]/\s'.net=nS s.net (false,false,bC (eO v.fb v.ob v.k [x,y]))
theorem aCa(h:Inv v now snaps s){b:List Int}{g:Nat}(h1:1<=g)(h2:g<=v.fb)(hu:eX b=some (kA g,none)):
  ∃x' s',x'<=v.x/\dP b s=some (none,s')/\Inv { v with x:=x' } now snaps s'/\Rn s s'/\(g=v.fb->aH0 v snaps s s' x'):=by
 have R:=h.big;have S:=h.kh;have T:=h.hs;have U:=h.n1;have V:=h.n0;have H:snaps.getD v.k []∈snaps:=by
  rw[aEg,aCl (by omega)];exact aKu _
 have M:(snaps.getD v.k []).length=v.n:=h.ep.len _ H;have A:=xA h.seenO;rw[M,<-h.eosn] at A;obtain⟨x,y,u,O,P⟩:=aFi (bs:=snaps.getD v.k []) (by omega) (by omega) (h.bok _ H);obtain⟨L,D⟩:=Rp (g:=g) (o:=v.ob) (j:=v.k) (t:=[x,y]) (by omega) (by omega) (by omega) rfl O P;have I:((3:Int),([(g:Int),(v.ob:Int),(v.k:Int)]++[x,y]:List Int),([]:List aQ))=eO g v.ob v.k [x,y]:=rfl;have E:Sw.idx (kA g).2.1 (0:Int)=some (g:Int):=rfl;have F:cm .eql (kA g).1 (2:Int)=true:=rfl;have G:cm .eql ((kA g).2.1.length:Int) (1:Int)=true:=rfl;by_cases N:s.first<g
 ·have K:=aB8 h h1 h2 N;refine⟨0,{ s with first:=(g:Int),receiver:=(pB g v.ob,0),net:=nS s.net (false,false,bC (eO g v.ob v.k [x,y])) },by omega,?_,K.push (Dv D false (fun c=>nomatch c) (fun _=>Em K h1 h2 rfl u)),.inr ⟨_,rfl⟩,fun e=>by subst e;exact⟨rfl,rfl,rfl,rfl,rfl,fun c=>by omega,x,y,u,rfl⟩⟩;unfold dP bW;have B:cm .gtr (g:Int) s.first=true:=by rw[cg];exact aIc (by omega)
  have z:cm .lss (g:Int) (g:Int)=false:=by rw[cl];exact aBb (by omega)
  rw[hu,cM];simp only[aKp,aCj,F,G,cM,E,B,jp];rw[A,cM];simp only[aA8,pF,cM,z];rw[u,cM,app_small _ _ (by simp),cM,h.eoboots,h.eonum,aFn (by omega) (by omega),I,Ro D L _ _ _ _ _ _ _ _ _ _ _ _ _ _ _ _ _ _ _ _ _ _ _ h.netl];rfl
 ·have B:cm .gtr (g:Int) s.first=false:=by rw[cg];exact aBb (by omega)
  by_cases C:s.first=g
  ·refine⟨v.x,{ s with net:=nS s.net (false,false,bC (eO g v.ob v.k [x,y])) },aDn _,?_,h.push (Dv D false (fun c=>nomatch c) (fun _=>Em h h1 h2 C u)),.inr ⟨_,rfl⟩,fun e=>by subst e;exact⟨C,rfl,rfl,rfl,rfl,fun _=>rfl,x,y,u,rfl⟩⟩;unfold dP bW;have z:cm .lss (g:Int) s.first=false:=by rw[cl];exact aBb (by omega)
   rw[hu,cM];simp only[aKp,aCj,F,G,cM,E,B,jp,pF];rw[A,cM];simp only[aA8,pF,cM,z];rw[u,cM,app_small _ _ (by simp),cM,h.eoboots,h.eonum,C,I,Ro D L _ _ _ _ _ _ _ _ _ _ _ _ _ _ _ _ _ _ _ _ _ _ _ h.netl];rw[<-C,<-h.eonum];rfl
  ·refine⟨v.x,s,aDn _,?_,h,.inl rfl,fun e=>by exfalso;rcases h.first with⟨Q,_⟩|⟨X,Q,d2,d3,_⟩<;>omega⟩;unfold dP bW;have z:cm .lss (g:Int) s.first=true:=by rw[cl];exact aIc (by omega)
   rw[hu,cM];simp only[aKp,aCj,F,G,cM,E,B,jp,pF];rw[A,cM];simp only[aA8,pF,cM,z,aCj]
def aJ0(v:Nm)(s s':PS)(k' x':Nat)(S:Int)(q:Nat):Prop:=(S≠s.receiver.1->s'=s/\k'=v.k/\x'=v.x)/\
 (0<=s.first->S=s.receiver.1->S=s.session->q=v.q->x'=v.q+1/\s'.first=s.first/\s'.session=s.session/\s'.sender=s.sender/\s'.sent=s.sent/\s'.safe=s.safe/\s'.net=nS s.net (false,false,bC (zR S (v.q+1))))
theorem aFp(h:Inv v now snaps s)(hbx:v.x+1<=100000){b:List Int}(hb:Bytes b)(hbl:b.length<=2000){S:Int}{q:Nat}{m:Fm}(hf:eP b=some (dataF S q m))(hm:MsgOk m)(ha:sD v s S)
  (hs:S=s.session->q<v.q\/(q=v.q/\s.sender.2.2=[m])) (hr:0<=s.first->S=s.receiver.1->q<=v.x/\(q=v.x->∃to,NewsAt v.n snaps v.k to m)):
  ∃k' x' s',v.k<=k'/\x'<=v.x+1/\dP b s=some (none,s')/\Inv { v with k:=k',x:=x' } now snaps s'/\Rn s s'/\aJ0 v s s' k' x' S q:=by
 have al:=h.big;have am:=h.kh;have an:=h.hs;have U:=h.n1;have V:=h.n0;have B:=rF b hb (by omega);rw[hf] at B;simp only at B;by_cases X:s.first<0
 ·exact⟨v.k,v.x,s,aDn _,by omega,My b _ none B (.inr (by unfold dataF;simp)) (fun c=>by omega),h,.inl rfl,fun _=>⟨rfl,rfl,rfl⟩,fun c=>absurd c (by omega)⟩
 ·obtain⟨ah,ai⟩:=Jg h (by omega);have A:=Mt s.receiver b hb hbl ah (by omega);rw[hf] at A;by_cases u:S=s.receiver.1
  ·obtain⟨aw,aj⟩:=hr (by omega) u;have aa:=(Go.PlFr.load_frame hm.load)
   have ab:=rE aa.1 hm.blk;have ac:=ab.s1;have E:(dataF S q m).1=1/\3<=(dataF S q m).2.1.length/\(dataF S q m).2.1.getD 0 0=s.receiver.1/\(dataF S q m).2.1.getD 2 0<=15:=by
    refine⟨rfl,by unfold dataF;simp,u,ac⟩
   have ad:(dataF S q m).2.1.getD 1 0=q:=rfl;have ae:((dataF S q m).2.1.getD 2 0,(dataF S q m).2.1.drop 3,(dataF S q m).2.2)=m:=rfl;unfold Ha at A;simp only[aF2 E,ad,ae] at A;have I:cm .eql (dataF S q m).1 (2:Int)=false:=rfl;have K:cm .lss s.first (0:Int)=false:=by rw[cl];exact aBb X
   have L:∀a:Nat,a<=2147483647->Good (zR s.receiver.1 a):=fun a av=>by
    refine⟨by unfold zR;simp,by unfold zR;simp,by unfold zR;simp,by unfold zR;simp,fun n P=>?_,fun b hb=>by simp[zR] at hb⟩;simp only[zR,aF3,aM1,aO3] at P;rcases P with rfl | rfl<;>omega
   by_cases M:(q:Int)=s.receiver.2/\s.receiver.2<2147483647
   ·rw[aF2 M] at A;simp only at A;have N:q=v.x:=by omega
    obtain⟨to,C⟩:∃to,NewsAt v.n snaps v.k to m/\(s.session=s.receiver.1->v.x=v.q/\s.sender.2.2≠ []/\s.sent=to):=by
     by_cases c:s.session=s.receiver.1
     ·rcases h.act (In h (by omega) c) with⟨D,a2,T⟩|⟨D,a2,T⟩
      ·rcases hs (by rw[u,c]) with d |⟨d1,H⟩
       ·omega
       ·exact⟨s.sent,T m H,fun _=>⟨D,by rw[H];simp,rfl⟩⟩
      ·rcases hs (by rw[u,c]) with d |⟨d1,H⟩<;>omega
     ·obtain⟨to,e⟩:=aj N;exact⟨to,e,fun d=>absurd d c⟩
    obtain⟨C,ak⟩:=C;have ao:=C.lt;have ap:=C.le;have aq:=C.nn;let s1:PS:={ s with receiver:=(s.receiver.1,s.receiver.2+1) }
    obtain⟨d',sd,et⟩:=aHu (s:=s1) (snaps:=snaps) (n:=v.n) h.seenO rfl V U h.ep.len h.eonum (by omega) (by omega) h.eoboots (by omega) h.eon h.eosn C;have O:s.receiver.2+1=((v.x+1:Nat):Int):=by omega
    have F:=aFo h hbx (by omega) (by rw[<-u];exact ha) (to:=to.toNat) (by omega) (by omega) sd (fun c=>by obtain⟨c1,c2,c3⟩:=ak c;exact⟨c1,c2,by omega⟩);have af:((to.toNat:Nat):Int)=to:=by omega
    rw[af,<-O] at F
    have G:=aAg F (by simp only;omega) (by
     obtain⟨g,o,Q,b2,b3,b4,R,b6⟩:=ha;rw[u] at Q R
     exact⟨g,o,Q,b2,b3,b4,R,b6⟩)
    refine⟨to.toNat,v.x+1,_,by omega,aDn _,?_,F.push (Dv (L (v.x+1) (by omega)) false (fun c=>nomatch c) (fun _=>G)),.inr ⟨_,rfl⟩,fun c=>absurd u c,fun _ _ _ e=>⟨by omega,rfl,rfl,rfl,rfl,rfl,by rw[u,<-e,N]⟩⟩;unfold rG at et;unfold dP bW;rw[B,cM];simp only[aKp,aCj,I,cM,pF,K];rw[A,cM];simp only[aA8,pF,aCj,jp];cases hz:eN m s.n s.fn s.fnum s.boots s.blocks s.epochs s.past s.session s.sender s.sent s.safe s.offered s.on s.onum s.oboots s.first (s.receiver.1,s.receiver.2+1) s.net s.fsn s.fd s.osn s.od with
    |none=>simp only[s1] at et;rw[hz] at et;cases et
    |some z=>
     simp only[s1] at et;rw[hz,cM] at et;simp only[aD2,aKq,PS.mk.injEq] at et;rw[cM];simp only[et,aA8,pF];rw[Hj _ _ _ _ _ _ _ _ _ _ _ _ _ _ _ _ _ _ _ _ _ _ _ _ h.netl];simp only[cM,O];rfl
   ·have au:¬q=v.x:=by omega
    rw[aD0 M] at A;simp only at A;have G:=aAg h (by omega) (by rw[<-u];exact ha);refine⟨v.k,v.x,_,aDn _,by omega,?_,h.push (Dv (L v.x (by omega)) false (fun c=>nomatch c) (fun _=>G)),.inr ⟨_,rfl⟩,fun c=>absurd u c,fun _ _ c e=>(fun (z:v.x=v.q+1)=>⟨z,rfl,rfl,rfl,rfl,rfl,by rw[u,<-z]⟩) (by rcases h.act (In h (by omega) (by rw[<-c,u])) with⟨D,_⟩|⟨D,_⟩<;>omega)⟩;unfold dP bW;rw[B,cM];simp only[aKp,aCj,I,cM,pF,K];rw[A,cM];simp only[aA8,pF,jp];rw[Hj _ _ _ _ _ _ _ _ _ _ _ _ _ _ _ _ _ _ _ _ _ _ _ _ h.netl];simp only[cM,ai];rfl
  ·refine⟨v.k,v.x,s,aDn _,by omega,My b _ none B (.inr (by unfold dataF;simp)) (fun _=>⟨(0,[],[]),?_⟩),h,.inl rfl,fun _=>⟨rfl,rfl,rfl⟩,fun _ c=>absurd c u⟩;rw[A];have E:¬((dataF S q m).1=1/\3<=(dataF S q m).2.1.length/\(dataF S q m).2.1.getD 0 0=s.receiver.1/\(dataF S q m).2.1.getD 2 0<=15):=fun c=>u c.2.2.1;unfold Ha;simp only[aD0 E]
theorem Vb(h:Inv v now snaps s)(hbx:v.x+1<=100000){y:Bool×Bool×List Int}(hy:NetOk v snaps s y)(hd:y.1=true):
  ∃k' x' s',v.k<=k'/\x'<=v.x+1/\dP y.2.2 s=some (none,s')/\Inv { v with k:=k',x:=x' } now snaps s'/\Rn s s':=by
 have E:=hy.len;have u:=rF y.2.2 hy.bytes (by omega);by_cases z:y.2.1=true
 ·rw[hy.torn z] at u;refine⟨v.k,v.x,s,aDn _,by omega,My _ _ _ u (.inl rfl) (fun H=>⟨(0,[],[]),?_⟩),h,.inl rfl⟩;obtain⟨I,U⟩:=Jg h H;have T:=h.big;rw[Mt s.receiver _ hy.bytes E I (by omega),hy.torn z];rfl
 ·obtain⟨f,K,L,M,_⟩:=hy.whole (by simpa using z);have F:eP y.2.2=some f:=by rw[L];exact lI K
  rw[F] at u;rcases M hd with⟨g,O,D,rfl⟩|⟨S,q,m,rfl,D,P,Q,R⟩
  ·obtain⟨x',s',G,A,B,C,_⟩:=aCa h O D u;exact⟨v.k,x',s',aDn _,by omega,A,B,C⟩
  ·obtain⟨k',x',s',G,A,B,C,N,_⟩:=aFp h hbx hy.bytes E F D P Q R;exact⟨k',x',s',G,A,B,C,N⟩
end Go.PlMi
namespace Go.PlMi
open Go Go.Sw Go.Mo Go.Pl
open Go.PlSt (nQ xA)
open Go.PlFr (Good bC eP cZ dH rE Fr zQ rF lI mD)
variable {v:Nm}{now:List aQ}{snaps:List (List aQ)}{s:PS}
theorem eq2(x y:Int):iR [x,y] [x,y]=some true:=by
 unfold iR;have e:cm .neq (([x,y]:List Int).length:Int) (([x,y]:List Int).length:Int)=false:=by rw[cn];simp
 rw[e,pF];unfold lp;rw[show fI=1125899906842621+1+1+1 from rfl,Go.PlFr.loop_next (y:=(1:Int)),Go.PlFr.loop_next (y:=(2:Int)),Go.PlFr.loop_done (b:= .brk ())]
 ·rfl
 ·have h:Sw.idx [x,y] (1:Int)=some y:=rfl;have u:cm .neq y y=false:=by rw[cn];simp
  have z:cm .lss (1:Int) (([x,y]:List Int).length:Int)=true:=rfl;rw[z,aCj,h,cM,cM,u,pF];rfl
 ·have h:Sw.idx [x,y] (0:Int)=some x:=rfl;have u:cm .neq x x=false:=by rw[cn];simp
  have z:cm .lss (0:Int) (([x,y]:List Int).length:Int)=true:=rfl;rw[z,aCj,h,cM,cM,u,pF];rfl
theorem Inv.setEp(h:Inv v now snaps s){e}(he:EpM v.n e now snaps):Inv v now snaps { s with epochs:=e }:=
 { h with
  ep:=he
  net:=fun y u=>(h.net y u).same rfl rfl rfl rfl rfl }
theorem Ps(h:Inv v now snaps s){o j:Nat}(h1:1<=o)(h2:o<=v.ob)(hj:j<=v.k)(hlt:s.session<pB v.fb o)
  (ha:o=v.ob->s.session<pB v.fb o->j=v.k/\s.first=(v.fb:Int)/\v.x=0) {sent:Int} (hsent:sent=j\/(sent= -1/\j<v.h)):
  Inv { v with q:=0 } now snaps { s with session:=pB v.fb o,sender:=(pB v.fb o,0,[]),sent:=sent,safe:=max s.safe (j:Int),offered:=[] }:=by
 have aa:=h.big;have ab:=h.kh;have ac:=h.safe;have C:∀S,sD v s S->S≠pB v.fb o/\sD { v with q:=0 } { s with session:=pB v.fb o,sender:=(pB v.fb o,0,[]),sent:=sent,safe:=max s.safe (j:Int),offered:=[] } S:=by
  rintro S ⟨F,G,H,X,b3,b4,M,b6⟩;refine⟨fun e=>?_,F,G,H,X,b3,b4,?_,b6⟩
  ·rw[H] at e;obtain⟨P,Q⟩:=rZ (by omega) (by omega) e;rcases M with c |⟨I,K⟩
   ·omega
   ·rw[H,P,Q] at K;omega
  ·rcases M with c |⟨I,K⟩
   ·exact .inl c
   ·exact .inr ⟨I,by simp only;omega⟩
 exact { h with
  big:=by simp only;omega
  safe:=by simp only;omega
  sent:=by simp only;omega
  low:=fun _=>by simp only;omega
  idle:=fun c d=>h.idle c (by simp only at d;omega)
  session:= .inr ⟨o,h1,h2,rfl,fun e=>(ha e hlt).2.1⟩
  sender:= .inr ⟨yC _ _,rfl,rfl⟩
  queue:= .inl ⟨rfl,rfl⟩
  act:=fun e=>by
   simp only at e;obtain⟨B,z,A⟩:=ha (rZ (by omega) (by omega) e).2 hlt;refine .inl ⟨A,fun _=>?_,fun m N=>by simp at N⟩;simp only;rcases hsent with c |⟨I,K⟩
   ·left;omega
   ·right;omega
  net:=fun y u=>by
   have u:=h.net y u;refine⟨u.bytes,u.len,u.ne,u.torn,fun O=>?_⟩;obtain⟨f,R,T,U,V⟩:=u.whole O;refine⟨f,R,T,fun E=>?_,fun E=>?_⟩
   ·rcases U E with c |⟨S,q,m',B,z,A,D,L⟩
    ·exact .inl c
    ·exact .inr ⟨S,q,m',B,z,(C S A).2,fun c=>absurd c (C S A).1,L⟩
   ·rcases V E with⟨F,G,j',t',B,z,A,D,L,a6,a7,a8⟩|⟨S,a,B,z,A,D⟩
    ·exact .inl ⟨F,G,j',t',B,z,A,D,L,a6,a7,fun c d e=>a8 c d (by simp only at e;omega)⟩
    ·exact .inr ⟨S,a,B,(C S z).2,fun c=>absurd c (C S z).1,D⟩}
theorem aCb(h:Inv v now snaps s)(hbq:v.q+1<=100000)(h0:0<=s.session){m:Fm}(hq:s.sender.2.2=[m])(hk:s.sent<=v.k):
  Inv { v with q:=v.q+1 } now snaps { s with sender:=(s.session,((v.q+1:Nat):Int),[]),safe:=max s.safe s.sent,offered:=[] }:=by
 have K:=h.big;have L:=h.kh;have M:=h.safe
 exact { h with
  big:=by simp only;omega
  safe:=by simp only;omega
  low:=fun _=>by simp only;omega
  sender:= .inr ⟨h0,rfl,rfl⟩
  queue:= .inl ⟨rfl,rfl⟩
  act:=fun e=>by
   rcases h.act e with⟨a1,a2,a3⟩|⟨a1,a2,a3⟩
   ·have:=(a3 m hq).lt;omega
   ·exact .inl ⟨by simp only;omega,fun _=> .inl a3,fun m B=>by simp at B⟩
  net:=fun y u=>by
   have u:=h.net y u;refine⟨u.bytes,u.len,u.ne,u.torn,fun C=>?_⟩;obtain⟨f,D,E,F,G⟩:=u.whole C;refine⟨f,D,E,fun z=>?_,fun z=>?_⟩
   ·rcases F z with c |⟨S,q,H,a1,a2,a3,A,I⟩
    ·exact .inl c
    ·exact .inr ⟨S,q,H,a1,a2,a3,fun c=> .inl (by have:=A c;simp only;omega),I⟩
   ·rcases G z with c |⟨S,a,a1,a2,a3,A⟩
    ·exact .inl c
    ·exact .inr ⟨S,a,a1,a2,fun c=> .inl (by have:=a3 c;simp only;omega),A⟩}
def Xo(v:Nm)(u:Fm)(e:Option Int):Prop:=e.isSome=true\/u.1≠3\/∃g o j x y,u=eO g o j [x,y]/\g≠v.fb
theorem Pu{u:Fm}{e:Option Int}(h:Xo v u e):(bif (Option.isNone e) then
  bif (cm .eql u.1 (3:Int)) then
   bif (cm .eql (u.2.1.length:Int) (5:Int)) then
    (Sw.idx u.2.1 (0:Int)).bind fun z10=>
     some (cm .eql z10 (v.fb:Int))
   else
    some false
  else
   some false
  else
   some false)=some false:=by
 rcases h with c | c |⟨g,o,j,x,y,rfl,D⟩
 ·cases e with
  |none=>cases c
  |some e=>rfl
 ·have:cm .eql u.1 (3:Int)=false:=by rw[ce];exact aBb c
  rw[this];cases e<;>rfl
 ·have z:cm .eql (eO g o j [x,y]).1 (3:Int)=true:=rfl;have A:cm .eql ((eO g o j [x,y]).2.1.length:Int) (5:Int)=true:=rfl;have B:Sw.idx (eO g o j [x,y]).2.1 (0:Int)=some (g:Int):=rfl;have C:cm .eql (g:Int) (v.fb:Int)=false:=by rw[ce];exact aBb (by omega)
  rw[z,A,B,cM,C];cases e<;>rfl
theorem Hk(h:Inv v now snaps s){b:List Int}{u:Fm}{e:Option Int}(hu:eX b=some (u,e))(hn:Xo v u e)
  (hh:0<=s.session->qZ s.sender b=some (s.sender,none)):∃s',eF b s=some (none,s')/\Inv v now snaps s'/\s'.net=s.net:=by
 have H:=h.big;have I:=h.safe;have K:=h.kh;have L:s.epochs.1=v.h:=by have:=h.ep.num;have:=h.hs;omega
 have A:=Pu hn;by_cases B:s.session<0
 ·refine⟨s,?_,h,rfl⟩;unfold eF cC;have z:cm .lss s.session (0:Int)=true:=by rw[cl];exact aIc B
  rw[hu,cM,h.eboots];simp only[];rw[A];simp only[cM,pF,z,aCj];rw[<-h.eboots]
 ·obtain⟨F,G⟩:=h.ep.drop (num:=min s.safe s.epochs.1) (by omega);refine⟨_,?_,h.setEp G,rfl⟩;unfold eF cC;have z:cm .lss s.session (0:Int)=false:=by rw[cl];exact aBb B
  rw[hu,cM,h.eboots];simp only[];rw[A];simp only[cM,pF,z];rw[hh (by omega)];simp only[cM,aA8,pF];have C:ar .sub .i64 (s.sender.2.2.length:Int) (s.sender.2.2.length:Int)=0:=by rw[subI (by omega)];omega
  have D:Sw.sub s.offered (0:Int) 0=some []:=by unfold Sw.sub;rw[aF2 (by omega)];rfl
  have E:Sw.sub s.offered (0:Int) (s.offered.length:Int)=some s.offered:=by unfold Sw.sub;rw[aF2 (by omega)];simp
  rw[C,D,cM];unfold lp;rw[show fI=1125899906842623+1 from rfl,Go.PlFr.loop_done (b:= .brk s.safe)]
  ·simp only[];rw[E,cM,h.efn,F,cM];rw[<-h.eboots,<-h.efn];rfl
  ·rfl
end Go.PlMi
namespace Go.PlMi
open Go Go.Sw Go.Mo Go.Pl
open Go.PlSt (nQ xA)
open Go.PlFr (Good bC eP cZ dH rE Fr zQ rF lI mD iU)
variable {v:Nm}{now:List aQ}{snaps:List (List aQ)}{s:PS}
def aLg(v:Nm)(s s':PS)(q' o j:Nat):Prop:=s'.first=s.first/\(s.session<pB v.fb o->s'.session=pB v.fb o/\s'.sender.2.2=[])/\(¬s.session<pB v.fb o->s'=s/\q'=v.q)
theorem Vc(h:Inv v now snaps s){b:List Int}{o j:Nat}{x y:Int}(hu:eX b=some (eO v.fb o j [x,y],none))(h1:1<=o)(h2:o<=v.ob)(hj:j<=v.k)(ht:jK (snaps.getD j [])=some [x,y])
  (ha:o=v.ob->s.session<pB v.fb o->j=v.k/\s.first=(v.fb:Int)/\v.x=0):∃q' s',q'<=v.q/\eF b s=some (none,s')/\Inv { v with q:=q' } now snaps s'/\s'.net=s.net/\aLg v s s' q' o j:=by
 have M:=h.big;have N:=h.kh;have A:Sw.idx (eO v.fb o j [x,y]).2.1 (0:Int)=some (v.fb:Int):=rfl;have B:Sw.idx (eO v.fb o j [x,y]).2.1 (1:Int)=some (o:Int):=rfl;have H:Sw.idx (eO v.fb o j [x,y]).2.1 (2:Int)=some (j:Int):=rfl;have C:cm .eql (eO v.fb o j [x,y]).1 (3:Int)=true:=rfl;have D:cm .eql ((eO v.fb o j [x,y]).2.1.length:Int) (5:Int)=true:=rfl;have E:cm .eql (v.fb:Int) (v.fb:Int)=true:=by rw[ce];simp
 have K:Sw.sub (eO v.fb o j [x,y]).2.1 (3:Int) ((eO v.fb o j [x,y]).2.1.length:Int)=some [x,y]:=rfl;have F:=aFn (g:=v.fb) (o:=o) (by omega) (by omega);by_cases u:s.session<pB v.fb o
 ·have z:cm .gtr (pB v.fb o) s.session=true:=by rw[cg];exact aIc u
  cases hp:eV s.past (j:Int) with
  |none=>
   have L:j<v.h:=by
    rcases aKm j v.h with c | c
    ·exact c
    ·have:j=v.h:=by omega
     rw[this,h.last] at hp;cases hp
   have G:=Ps h h1 h2 hj u ha (sent:= -1) (.inr ⟨rfl,L⟩);refine⟨0,_,by omega,?_,G,rfl,rfl,fun _=>⟨rfl,rfl⟩,fun c=>absurd u c⟩;unfold eF cC;rw[hu,cM,h.eboots];simp only[aKp,aCj,C,D,A,B,H,E,cM,F,z,jp,hp,aA8,aMp]
  |some l=>
   have I:=h.past _ (Hh hp);simp only[aCk] at I;rw[<-I.2.2] at ht;have G:=Ps h h1 h2 hj u ha (sent:=(j:Int)) (.inl rfl);refine⟨0,_,by omega,?_,G,rfl,rfl,fun _=>⟨rfl,rfl⟩,fun c=>absurd u c⟩;unfold eF cC;rw[hu,cM,h.eboots];simp only[aKp,aCj,C,D,A,B,H,E,cM,F,z,jp,hp,aM3,aLr,pF,aMn,ht,K,eq2]
 ·have z:cm .gtr (pB v.fb o) s.session=false:=by rw[cg];exact aBb u
  refine⟨v.q,s,aDn _,?_,h,rfl,rfl,fun c=>absurd c u,fun _=>⟨rfl,rfl⟩⟩;unfold eF cC;rw[hu,cM,h.eboots];simp only[aKp,aCj,C,D,A,B,E,cM,F,z,jp,pF];rw[<-h.eboots]
theorem Io(h:Inv v now snaps s)(h0:0<=s.session):iU s.sender=0:=by
 have G:=h.big;have H:=aAf h;rcases h.sender with⟨B,_⟩|⟨B,C,D⟩
 ·omega
 ·have A:s.sender=(s.session,(v.q:Int),s.sender.2.2):=by rw[<-C,<-D]
  rw[A];rcases h.queue with⟨z,E⟩|⟨m,z,E,F,I⟩
  ·rw[z];exact mD (by omega) (by omega) (by simp) (fun f u=>by simp at u)
  ·rw[z];exact mD (by omega) (by omega) (by simp) (fun f u=>by simp at u;subst u;exact F.load)
theorem aH1(h:Inv v now snaps s)(hbq:v.q+1<=100000){b:List Int}(hb:Bytes b)(hbl:b.length<=2000){S:Int}{a:Nat}(hf:eP b=some (zR S a))
  (hs:S=s.session->a<=v.q\/(a=v.q+1/\s.sender.2.2≠ []/\s.sent<=v.k)):∃q' s',q'<=v.q+1/\eF b s=some (none,s')/\Inv { v with q:=q' } now snaps s'/\s'.net=s.net/\
   (0<=s.session->S=s.session->a=v.q+1->s.sender.2.2.length=1->s'.first=s.first/\s'.session=s.session/\s'.sender.2.2=[]/\s'.sent=s.sent):=by
 have ad:=h.big;have ae:=h.kh;have af:=h.safe;have z:=rF b hb (by omega);rw[hf] at z;simp only at z;have G:Xo v (zR S a) none:= .inr (.inl (by unfold zR;simp));by_cases D:0<=s.session
 ·have u:=zQ s.sender b hb hbl (Io h D);rw[hf] at u;unfold Fr at u;by_cases E:(zR S a).1=0/\(zR S a).2.2=[]/\(zR S a).2.1.length=2/\(zR S a).2.1.getD 0 0=s.sender.1/\s.sender.2.1<(zR S a).2.1.getD 1 0/\(zR S a).2.1.getD 1 0 - s.sender.2.1<=min (s.sender.2.2.length:Int) 4
  ·simp only[aF2 E] at u;obtain⟨_,_,_,H,O,P⟩:=E;have H:S=s.sender.1:=H;have R:(zR S a).2.1.getD 1 0=(a:Int):=rfl;rw[R] at O P u;rcases h.sender with⟨L,_⟩|⟨L,F,M⟩
   ·omega
   ·have T:=hs (by rw[H,F]);rw[M] at O P;have I:a=v.q+1/\s.sender.2.2≠ []/\s.sent<=v.k:=by
     rcases T with d | d
     ·omega
     ·exact d
    obtain⟨I,_,ac⟩:=I;rcases h.queue with⟨C,Q⟩|⟨m,C,Q,d3,d4⟩
    ·exact absurd C ‹_›
    ·have N:=aCb h hbq D C ac;have ah:s.epochs.1=v.h:=by have:=h.ep.num;have:=h.hs;omega
     obtain⟨A,B⟩:=N.ep.drop (num:=min (max s.safe s.sent) s.epochs.1) (by simp only;omega);refine⟨v.q+1,_,aDn _,?_,N.setEp B,rfl,fun _ _ _ _=>⟨rfl,rfl,rfl,rfl⟩⟩;have U:(s.sender.1,(a:Int),s.sender.2.2.drop ((a:Int) - s.sender.2.1).toNat)=(s.session,((v.q+1:Nat):Int),([]:List Fm)):=by
      rw[F,M,C,I];have:(((v.q+1:Nat):Int) - (v.q:Int)).toNat=1:=by omega
      rw[this];rfl
     rw[U] at u;have V:=Pu G;unfold eF cC;have X:cm .lss s.session (0:Int)=false:=by rw[cl];exact aBb (by omega)
     rw[z,cM,h.eboots];simp only[];rw[V];simp only[cM,pF,X];rw[u];simp only[cM,aA8,pF];rw[C,Q];have aa:ar .sub .i64 (([m]:List Fm).length:Int) (([]:List Fm).length:Int)=1:=by rw[subI (by simp)];simp
     have hz:Sw.sub [s.sent] (0:Int) 1=some [s.sent]:=rfl;have ab:Sw.sub [s.sent] (1:Int) (([s.sent]:List Int).length:Int)=some []:=rfl;rw[aa,hz,cM];unfold lp;rw[show fI=1125899906842622+1+1 from rfl,Go.PlFr.loop_next (y:=((1:Int),max s.safe s.sent)),Go.PlFr.loop_done (b:= .brk (max s.safe s.sent))]
     ·simp only[];rw[ab,cM,h.efn,A,cM];rw[<-h.eboots,<-h.efn];rfl
     ·rfl
     ·rfl
  ·simp only[aD0 E] at u;obtain⟨s',A,B,K⟩:=Hk h z G (fun _=>u);refine⟨v.q,s',by omega,A,B,K,fun _ c d e=>absurd ?_ E⟩;rcases h.sender with⟨L,_⟩|⟨L,F,M⟩
   ·omega
   ·refine⟨rfl,rfl,rfl,?_,?_,?_⟩
    ·show S=s.sender.1;rw[F,c]
    ·show s.sender.2.1<(a:Int);omega
    ·show (a:Int) - s.sender.2.1<=_;omega
 ·obtain⟨s',A,B,K⟩:=Hk h z G (fun c=>absurd c D);exact⟨v.q,s',by omega,A,B,K,fun c=>absurd c D⟩
theorem Xp(h:Inv v now snaps s)(hbq:v.q+1<=100000){y:Bool×Bool×List Int}(hy:NetOk v snaps s y)(hd:y.1=false):
  ∃q' s',q'<=v.q+1/\eF y.2.2 s=some (none,s')/\Inv { v with q:=q' } now snaps s'/\s'.net=s.net:=by
 have aa:=h.big;have ab:=h.kh;have ac:=h.hs;have ad:=h.n1;have ae:=h.n0;have E:=hy.len;have B:=rF y.2.2 hy.bytes (by omega);by_cases K:y.2.1=true
 ·have D:=fun G=>zQ s.sender y.2.2 hy.bytes E (Io h G);rw[hy.torn K] at B D;obtain⟨s',C,u,A⟩:=Hk h B (.inl rfl) D;exact⟨v.q,s',by omega,C,u,A⟩
 ·obtain⟨f,Q,R,_,T⟩:=hy.whole (by simpa using K);have F:eP y.2.2=some f:=by rw[R];exact lI Q
  rcases T hd with⟨g,o,j,t,rfl,V,N,O,X,a6,I,a8⟩|⟨S,a,rfl,V,N,O⟩
  ·have L:snaps.getD j []∈snaps:=by
    rw[aEg,aCl (by omega)];exact aKu _
   have af:(snaps.getD j []).length=v.n:=h.ep.len _ L;obtain⟨x,z,U,_,_⟩:=aFi (bs:=snaps.getD j []) (by omega) (by omega) (h.bok _ L);have P:t=[x,z]:=by rw[U] at I;exact(pT I).symm
   subst P;rw[F] at B;simp only at B;by_cases M:g=v.fb
   ·subst M;obtain⟨q',s',C,u,A,H,_⟩:=Vc h B O X a6 I (a8 rfl);exact⟨q',s',by omega,u,A,H⟩
   ·obtain⟨s',C,u,A⟩:=Hk h B (.inr (.inr ⟨g,o,j,x,z,rfl,M⟩)) (fun G=>by
     have D:=zQ s.sender y.2.2 hy.bytes E (Io h G);rw[F] at D;rw[D];unfold Fr;simp only[]
     rw[aD0 (fun c=>by have:=c.1;simp[eO] at this)])
    exact⟨v.q,s',by omega,C,u,A⟩
  ·obtain⟨q',s',C,u,A,H,_⟩:=aH1 h hbq hy.bytes E F N;exact⟨q',s',C,u,A,H⟩
end Go.PlMi
namespace Go.PlMi
open Go Go.Sw Go.Mo Go.Pl
open Go.PlSt (nQ xA)
variable {v:Nm}{now:List aQ}{snaps:List (List aQ)}{s:PS}
def wt(l:List (Bool×Bool×List Int)):Nat:=(l.map fun y=>bif y.1 then 2 else 1).sum
theorem Xq(a b:List (Bool×Bool×List Int)):wt (a++b)=wt a+wt b:=by unfold wt;rw[aMz,List.sum_append]
theorem aH2(l:List (Bool×Bool×List Int))(y:Bool×List Int):wt (nS l (false,y))<=wt l+1:=by
 unfold nS;split
 ·rw[Xq];simp[wt]
 ·omega
theorem aH3(h:Inv v now snaps s)(hbq:v.q+1<=100000)(hbx:v.x+1<=100000){y:Bool×Bool×List Int}(hy:NetOk v snaps s y):
  ∃k' q' x' s',v.k<=k'/\q'<=v.q+1/\x'<=v.x+1/\tQ y s=some (none,s')/\Inv { v with k:=k',q:=q',x:=x' } now snaps s'/\wt s'.net<wt s.net+(bif y.1 then 2 else 1):=by
 by_cases A:y.1=true
 ·obtain⟨k',x',s',E,C,u,D,B⟩:=Vb h hbx hy A;refine⟨k',v.q,x',s',E,by omega,C,?_,D,?_⟩
  rotate_left
  ·rw[A,aCj];rcases B with B |⟨z,B⟩
   ·rw[B];omega
   ·rw[B];have:=aH2 s.net z;omega
  unfold dP at u;unfold tQ fF;rw[A,aCj];cases hz:bW y.2.2 s.n s.fn s.fnum s.boots s.blocks s.epochs s.past s.session s.sender s.sent s.safe s.offered s.on s.onum s.oboots s.first s.receiver s.net s.fsn s.fd s.osn s.od with
  |none=>rw[hz] at u;cases u
  |some z=>rw[hz] at u;exact u
 ·have A:y.1=false:=by simpa using A
  obtain⟨q',s',C,u,D,B⟩:=Xp h hbq hy A;refine⟨v.k,q',v.x,s',aDn _,C,by omega,?_,D,by rw[A,pF,B];omega⟩;unfold eF at u;unfold tQ fF;rw[A,pF];cases hz:cC y.2.2 s.n s.fn s.fnum s.boots s.blocks s.epochs s.past s.session s.sender s.sent s.safe s.offered s.on s.onum s.oboots s.first s.receiver s.net s.fsn s.fd s.osn s.od with
  |none=>rw[hz] at u;cases u
  |some z=>rw[hz] at u;exact u
theorem Xr(h:Inv v now snaps s)(hbq:v.q+1<=100000)(hbx:v.x+1<=100000){a:Int}(ha:Va a):
  ∃k' q' x' s',v.k<=k'/\q'<=v.q+1/\x'<=v.x+1/\mB a s=some (none,s')/\Inv { v with k:=k',q:=q',x:=x' } now snaps s'/\(s.net≠ []->wt s'.net<wt s.net):=by
 rcases Hi h ha with⟨Q,u⟩|⟨i,C,u,R,T⟩
 ·refine⟨v.k,v.q,v.x,s,aDn _,by omega,by omega,?_,h,fun c=>absurd Q c⟩;unfold iX at u;unfold mB eH;cases hq:bP a s.n s.fn s.fnum s.boots s.blocks s.epochs s.past s.session s.sender s.sent s.safe s.offered s.on s.onum s.oboots s.first s.receiver s.net s.fsn s.fd s.osn s.od with
  |none=>rw[hq] at u;cases u
  |some q=>
   rw[hq] at u;simp only[cM,aD2,aKq] at u;simp only[cM,u.2.1,aMp,aCj]
 ·have S:=h.netl;have D:=rD (aCl C);have E:=h.net _ (aKu C);generalize hy:s.net[i]=y at D E
  have F:=h.setNet (l:=s.net.take i++s.net.drop (i+1)) (by simp;omega) (fun x A=>by
   rcases aI9.1 A with A | A
   ·exact h.net x (aMx A)
   ·exact h.net x (aNy A))
  obtain⟨k',q',x',s',L,M,N,B,O,P⟩:=aH3 F hbq hbx (y:=y) (E.same rfl rfl rfl rfl rfl);refine⟨k',q',x',s',L,M,N,?_,O,fun _=>Nat.lt_of_lt_of_eq P ?_⟩
  rotate_left
  ·have e:=aId i s.net;rw[aM7 C,hy] at e;have G:=congrArg wt e;have H:wt (y::s.net.drop (i+1))=(bif y.1 then 2 else 1)+wt (s.net.drop (i+1)):=by unfold wt;simp
   rw[Xq,H] at G;simp only[Xq];omega
  unfold tQ at B;unfold mB eH;rw[R,cM];simp only[aLr,pF,D,cM];rw[Pq (by omega),cM];have I:ar .add .i64 (i:Int) (1:Int)=((i+1:Nat):Int):=nxt (by omega);have K:cD s.net (i:Int) ((i+1:Nat):Int)=some (s.net.take i++s.net.drop (i+1)):=aAe s.net i C;rw[I,K,cM];cases hz:fF y s.n s.fn s.fnum s.boots s.blocks s.epochs s.past s.session s.sender s.sent s.safe s.offered s.on s.onum s.oboots s.first s.receiver (s.net.take i++s.net.drop (i+1)) s.fsn s.fd s.osn s.od with
  |none=>rw[hz] at B;cases B
  |some z=>rw[hz] at B;exact B
theorem aAh(h:Inv v now snaps s)(r:Int×aQ×Int×Int×Int×List aQ):tT r s=some ((r.1,r.2.1,(v.h:Int),s.safe,(v.k:Int),snaps.getD v.k []),none,s):=by
 have B:=h.kh;have C:=h.hs;have z:snaps.getD v.k []∈snaps:=by
  rw[aEg,aCl (by omega)];exact aKu _
 have A:(snaps.getD v.k []).length=v.n:=h.ep.len _ z;have u:=xA h.seenO;rw[A,<-h.eosn] at u;unfold tT fH;rw[u,h.enum,h.eonum];simp only[cM]
end Go.PlMi
namespace Go.PlMi
open Go Go.Sw Go.Mo Go.Pl
variable {v v':Nm}{now now':List aQ}{snaps snaps':List (List aQ)}{s s':PS}
def fns(i:Nat)(d:Int×Int×Int×aQ)(s:PS):=vG i d s.n s.fn s.fnum s.boots s.blocks s.epochs s.past s.session s.sender s.sent s.safe s.offered s.on s.onum s.oboots s.first s.receiver s.net s.fsn s.fd s.osn s.od
theorem aFq(i:Fin 11):tB ((i.1:Nat):Int)=some i.1:=by revert i;decide+kernel
theorem pS{d:Int×Int×Int×aQ}{i:Nat}{blk:aQ}{e:Option Int}(h':Inv v' now' snaps' s')(hi:i<11)(hd:d.1=(i:Int))(hf:fns i d s=some (blk,e,tup s')):
  mC d s=some ((e.getD 0,blk,(v'.h:Int),s'.safe,(v'.k:Int),snaps'.getD v'.k []),none,s'):=by
 have u:=aAh h' (e.getD 0,blk,0,0,0,[]);have A:=aFq ⟨i,hi⟩;simp only at A;have B:cm .lss d.1 (0:Int)=false:=by rw[cl];exact aBb (by omega)
 have C:cm .geq d.1 (11:Int)=false:=by rw[cge];exact aBb (by omega)
 unfold fns at hf;unfold tT at u;unfold mC gP;rw[B,C];simp only[pF,cM,jp];rw[hd,A,cM,hf,cM];cases hz:fH (e.getD 0,blk,0,0,0,[]) s'.n s'.fn s'.fnum s'.boots s'.blocks s'.epochs s'.past s'.session s'.sender s'.sent s'.safe s'.offered s'.on s'.onum s'.oboots s'.first s'.receiver s'.net s'.fsn s'.fd s'.osn s'.od with
 |none=>rw[hz] at u;cases u
 |some z=>
  rw[hz] at u;simp only[cM,aD2,aKq] at u;obtain⟨D,E⟩:=z;obtain⟨rfl,rfl,_⟩:=u;cases e with
  |none=>
   simp only[aO2] at hz;simp only[tup,aA8,pF,cM,hz,aO2]
  |some c=>
   simp only[aMn] at hz;simp only[tup,aM3,aCj,aLr,pF,cM,aMn,hz]
theorem aH4{d:Int×Int×Int×aQ}(h:Inv v now snaps s)(hd:d.1<0\/11<=d.1):
  mC d s=some ((3,aU,(v.h:Int),s.safe,(v.k:Int),snaps.getD v.k []),none,s):=by
 have u:=aAh h (3,aU,0,0,0,[]);have A:(bif (cm .lss d.1 (0:Int)) then some true else some (cm .geq d.1 (11:Int)))=some true:=by
  rw[cl,cge];by_cases c:d.1<0
  ·rw[aIc c];rfl
  ·rw[aBb c,aIc (by omega)];rfl
 unfold tT at u;unfold mC gP;rw[A];simp only[cM,jp,aCj];cases hz:fH (3,aU,0,0,0,[]) s.n s.fn s.fnum s.boots s.blocks s.epochs s.past s.session s.sender s.sent s.safe s.offered s.on s.onum s.oboots s.first s.receiver s.net s.fsn s.fd s.osn s.od with
 |none=>rw[hz] at u;cases u
 |some z=>
  rw[hz] at u;simp only[cM,aD2,aKq] at u;obtain⟨B,C⟩:=z;obtain⟨rfl,rfl,_⟩:=u;rfl
theorem aAi{d:Int×Int×Int×aQ}{e:Option Int}(h:kR d.2.1 d.2.2.2 s=some (e,s')):fns 0 d s=some (aU,e,tup s'):=by
 unfold kR at h;unfold fns vG mU;cases hz:eD d.2.1 d.2.2.2 s.n s.fn s.fnum s.boots s.blocks s.epochs s.past s.session s.sender s.sent s.safe s.offered s.on s.onum s.oboots s.first s.receiver s.net s.fsn s.fd s.osn s.od with
 |none=>rw[hz] at h;cases h
 |some z=>rw[hz] at h;simp only[cM,aD2,aKq] at h;obtain⟨u,rfl⟩:=h;rw[<-u];rfl
theorem Vd{d:Int×Int×Int×aQ}{e:Option Int}(h:kR d.2.1 aU s=some (e,s')):fns 1 d s=some (aU,e,tup s'):=by
 unfold kR at h;unfold fns vG mV;cases hz:eD d.2.1 aU s.n s.fn s.fnum s.boots s.blocks s.epochs s.past s.session s.sender s.sent s.safe s.offered s.on s.onum s.oboots s.first s.receiver s.net s.fsn s.fd s.osn s.od with
 |none=>rw[hz] at h;cases h
 |some z=>rw[hz] at h;simp only[cM,aD2,aKq] at h;obtain⟨u,rfl⟩:=h;rw[<-u];rfl
theorem Ve{d:Int×Int×Int×aQ}{e:Option Int}(h:pR s=some (e,s')):fns 3 d s=some (aU,e,tup s'):=by
 unfold pR at h;unfold fns vG mX;cases hz:fA s.n s.fn s.fnum s.boots s.blocks s.epochs s.past s.session s.sender s.sent s.safe s.offered s.on s.onum s.oboots s.first s.receiver s.net s.fsn s.fd s.osn s.od with
 |none=>rw[hz] at h;cases h
 |some z=>rw[hz] at h;simp only[cM,aD2,aKq] at h;obtain⟨u,rfl⟩:=h;rw[<-u];rfl
theorem aFr{d:Int×Int×Int×aQ}{e:Option Int}(h:lJ s=some (e,s')):fns 4 d s=some (aU,e,tup s'):=by
 unfold lJ at h;unfold fns vG mY;cases hz:dS s.n s.fn s.fnum s.boots s.blocks s.epochs s.past s.session s.sender s.sent s.safe s.offered s.on s.onum s.oboots s.first s.receiver s.net s.fsn s.fd s.osn s.od with
 |none=>rw[hz] at h;cases h
 |some z=>rw[hz] at h;simp only[cM,aD2,aKq] at h;obtain⟨u,rfl⟩:=h;rw[<-u];rfl
theorem Vf{d:Int×Int×Int×aQ}{e:Option Int}(h:mB d.2.1 s=some (e,s')):fns 5 d s=some (aU,e,tup s'):=by
 unfold mB at h;unfold fns vG mZ;cases hz:eH d.2.1 s.n s.fn s.fnum s.boots s.blocks s.epochs s.past s.session s.sender s.sent s.safe s.offered s.on s.onum s.oboots s.first s.receiver s.net s.fsn s.fd s.osn s.od with
 |none=>rw[hz] at h;cases h
 |some z=>rw[hz] at h;simp only[cM,aD2,aKq] at h;obtain⟨u,rfl⟩:=h;rw[<-u];rfl
theorem aFs{d:Int×Int×Int×aQ}{e:Option Int}(h:qI d.2.1 s=some (e,s')):fns 6 d s=some (aU,e,tup s'):=by
 unfold qI at h;unfold fns vG nA;cases hz:fG d.2.1 s.n s.fn s.fnum s.boots s.blocks s.epochs s.past s.session s.sender s.sent s.safe s.offered s.on s.onum s.oboots s.first s.receiver s.net s.fsn s.fd s.osn s.od with
 |none=>rw[hz] at h;cases h
 |some z=>rw[hz] at h;simp only[cM,aD2,aKq] at h;obtain⟨u,rfl⟩:=h;rw[<-u];rfl
theorem Xs{d:Int×Int×Int×aQ}{e:Option Int}(h:kU d.2.1 s=some (e,s')):fns 7 d s=some (aU,e,tup s'):=by
 unfold kU at h;unfold fns vG nB;cases hz:dU d.2.1 s.n s.fn s.fnum s.boots s.blocks s.epochs s.past s.session s.sender s.sent s.safe s.offered s.on s.onum s.oboots s.first s.receiver s.net s.fsn s.fd s.osn s.od with
 |none=>rw[hz] at h;cases h
 |some z=>rw[hz] at h;simp only[cM,aD2,aKq] at h;obtain⟨u,rfl⟩:=h;rw[<-u];rfl
theorem Xt{d:Int×Int×Int×aQ}{e:Option Int}(h:kV d s=some (e,s')):fns 10 d s=some (aU,e,tup s'):=by
 unfold kV at h;unfold fns vG lX;cases hz:dV d s.n s.fn s.fnum s.boots s.blocks s.epochs s.past s.session s.sender s.sent s.safe s.offered s.on s.onum s.oboots s.first s.receiver s.net s.fsn s.fd s.osn s.od with
 |none=>rw[hz] at h;cases h
 |some z=>rw[hz] at h;simp only[cM,aD2,aKq] at h;obtain⟨u,rfl⟩:=h;rw[<-u];rfl
theorem Vg{d:Int×Int×Int×aQ}{b:aQ}{e:Option Int}(h:nR d.2.1 s=some (b,e,s)):fns 2 d s=some (b,e,tup s):=by
 unfold nR at h;unfold fns vG mW;cases hz:fE d.2.1 s.n s.fn s.fnum s.boots s.blocks s.epochs s.past s.session s.sender s.sent s.safe s.offered s.on s.onum s.oboots s.first s.receiver s.net s.fsn s.fd s.osn s.od with
 |none=>rw[hz] at h;cases h
 |some z=>rw[hz] at h;simp only[cM,aD2,aKq] at h;obtain⟨u,A,_⟩:=h;rw[<-u,<-A];rfl
end Go.PlMi
namespace Go.PlMi
open Go Go.Sw Go.Mo Go.Pl
variable {v:Nm}{now:List aQ}{snaps:List (List aQ)}{s:PS}
theorem aFt(bs:List aQ)(h:bs.length<=1000000):iW bs=some bs:=by
 unfold iW;rw[app_small _ _ (by simp;omega)];rfl
structure Grow (v v':Nm):Prop where
 n:v'.n=v.n
 h:v.h<=v'.h/\v'.h<=v.h+1
 k:v.k<=v'.k
 fb:v'.fb<=v.fb+1
 ob:v'.ob<=v.ob+1
 q:v'.q<=v.q+1
 x:v'.x<=v.x+1
def Jo(v:Nm)(now:List aQ)(snaps:List (List aQ))(s:PS)(d:Int×Int×Int×aQ):Prop:=
 ∃(v':Nm) (now':List aQ) (snaps':List (List aQ)) (s':PS) (oJ:Int) (blk:aQ),hO now snaps d=some (oJ,blk,now',snaps')/\
  mC d s=some ((oJ,blk,(v'.h:Int),s'.safe,(v'.k:Int),snaps'.getD v'.k []),none,s')/\Inv v' now' snaps' s'/\Grow v v'
theorem nT(v:Nm):Grow v v:=⟨rfl,⟨aDn _,by omega⟩,aDn _,by omega,by omega,by omega,by omega⟩
theorem aFu(h:Inv v now snaps s){a k:Int}{b:aQ}(hb:yB b):Jo v now snaps s (0,a,k,b):=by
 have C:=h.ep.nowl;by_cases u:0<=a/\a<v.n
 ·obtain⟨F,G,B⟩:=aFj h u hb;refine⟨v,_,snaps,F,0,aU,?_,pS B (by omega) rfl (aAi (d:=(0,a,k,b)) G),B,nT v⟩;obtain⟨z,H,_⟩:=xX (l:=now) (n:=a) u.1 (by rw[C];exact u.2);have D:cm .lss a (0:Int)=false:=by rw[cl];exact aBb (by omega)
  have E:cm .geq a (now.length:Int)=false:=by rw[cge];exact aBb (by omega)
  show ((bif cm .lss a (0:Int) then some true else some (cm .geq a (now.length:Int))).bind fun A=>bif A then some ((1:Int),aU,now,snaps) else (Sw.idx now a).bind fun _=>some ((0:Int),aU,(List.set now (Int.toNat a) b),snaps))=_;rw[D,E];simp only[pF,cM,H]
 ·refine⟨v,now,snaps,s,1,aU,?_,pS h (by omega) rfl (aAi (d:=(0,a,k,b)) (aAc h (show a<0\/a>=v.n by omega))),h,nT v⟩;have c:(bif cm .lss a (0:Int) then some true else some (cm .geq a (now.length:Int)))=some true:=by
   rw[cl,cge];by_cases c:a<0
   ·rw[aIc c];rfl
   ·rw[aBb c,aIc (by omega)];rfl
  show ((bif cm .lss a (0:Int) then some true else some (cm .geq a (now.length:Int))).bind fun A=>bif A then some ((1:Int),aU,now,snaps) else (Sw.idx now a).bind fun _=>some ((0:Int),aU,(List.set now (Int.toNat a) b),snaps))=_;rw[c];rfl
theorem aCc(h:Inv v now snaps s){a k:Int}{b:aQ}:Jo v now snaps s (1,a,k,b):=by
 have C:=h.ep.nowl;by_cases u:0<=a/\a<v.n
 ·obtain⟨F,G,B⟩:=aFj h u aAb;refine⟨v,_,snaps,F,0,aU,?_,pS B (by omega) rfl (Vd (d:=(1,a,k,b)) G),B,nT v⟩;obtain⟨z,H,_⟩:=xX (l:=now) (n:=a) u.1 (by rw[C];exact u.2);have D:cm .lss a (0:Int)=false:=by rw[cl];exact aBb (by omega)
  have E:cm .geq a (now.length:Int)=false:=by rw[cge];exact aBb (by omega)
  show ((bif cm .lss a (0:Int) then some true else some (cm .geq a (now.length:Int))).bind fun A=>bif A then some ((1:Int),aU,now,snaps) else (Sw.idx now a).bind fun _=>some ((0:Int),aU,(List.set now (Int.toNat a) aU),snaps))=_;rw[D,E];simp only[pF,cM,H]
 ·refine⟨v,now,snaps,s,1,aU,?_,pS h (by omega) rfl (Vd (d:=(1,a,k,b)) (aAc h (show a<0\/a>=v.n by omega))),h,nT v⟩;have c:(bif cm .lss a (0:Int) then some true else some (cm .geq a (now.length:Int)))=some true:=by
   rw[cl,cge];by_cases c:a<0
   ·rw[aIc c];rfl
   ·rw[aBb c,aIc (by omega)];rfl
  show ((bif cm .lss a (0:Int) then some true else some (cm .geq a (now.length:Int))).bind fun A=>bif A then some ((1:Int),aU,now,snaps) else (Sw.idx now a).bind fun _=>some ((0:Int),aU,(List.set now (Int.toNat a) aU),snaps))=_;rw[c];rfl
theorem aCd(h:Inv v now snaps s){a k:Int}{b:aQ}:Jo v now snaps s (2,a,k,b):=by
 have C:=h.ep.nowl;by_cases u:0<=a/\a<v.n
 ·refine⟨v,now,snaps,s,0,now.getD a.toNat [],?_,pS h (by omega) rfl (Vg (d:=(2,a,k,b)) (aHx h u)),h,nT v⟩;obtain⟨z,F,G⟩:=xX (l:=now) (n:=a) u.1 (by rw[C];exact u.2);have D:cm .lss a (0:Int)=false:=by rw[cl];exact aBb (by omega)
  have E:cm .geq a (now.length:Int)=false:=by rw[cge];exact aBb (by omega)
  show ((bif cm .lss a (0:Int) then some true else some (cm .geq a (now.length:Int))).bind fun A=>bif A then some ((1:Int),aU,now,snaps) else (Sw.idx now a).bind fun B=>some ((0:Int),B,now,snaps))=_;rw[D,E];simp only[pF,cM,F];rw[aEg,G];rfl
 ·refine⟨v,now,snaps,s,1,aU,?_,pS h (by omega) rfl (Vg (d:=(2,a,k,b)) (aFk h (show a<0\/a>=v.n by omega))),h,nT v⟩;have c:(bif cm .lss a (0:Int) then some true else some (cm .geq a (now.length:Int)))=some true:=by
   rw[cl,cge];by_cases c:a<0
   ·rw[aIc c];rfl
   ·rw[aBb c,aIc (by omega)];rfl
  show ((bif cm .lss a (0:Int) then some true else some (cm .geq a (now.length:Int))).bind fun A=>bif A then some ((1:Int),aU,now,snaps) else (Sw.idx now a).bind fun B=>some ((0:Int),B,now,snaps))=_;rw[c];rfl
theorem Rq(h:Inv v now snaps s)(hb:v.h+1<=100000){a k:Int}{b:aQ}:Jo v now snaps s (3,a,k,b):=by
 have D:=h.n1;have E:=h.hs;obtain⟨B,C,u⟩:=Xm h hb;refine⟨_,now,_,B,0,aU,?_,pS u (by omega) rfl (Ve (d:=(3,a,k,b)) C),u,⟨rfl,by simp only;omega,aDn _,by simp only;omega,by simp only;omega,by simp only;omega,by simp only;omega⟩⟩;show ((iW now).bind fun z=>(Sw.app snaps ([z]:(List (List aQ)))).bind fun A=>some ((0:Int),aU,now,A))=_;rw[aFt _ (by have:=h.ep.nowl;omega),cM,app_small _ _ (by simp;omega)];rfl
theorem aCe(h:Inv v now snaps s){a k:Int}{b:aQ}:Jo v now snaps s (4,a,k,b):=by
 obtain⟨z,A,u,_⟩:=aHz h;exact⟨v,now,snaps,z,0,aU,rfl,pS u (by omega) rfl (aFr (d:=(4,a,k,b)) A),u,nT v⟩
theorem Rr(h:Inv v now snaps s)(hbq:v.q+1<=100000)(hbx:v.x+1<=100000){a k:Int}{b:aQ}(ha:Va a):Jo v now snaps s (5,a,k,b):=by
 obtain⟨E,F,G,z,A,B,C,D,u,_⟩:=Xr h hbq hbx ha;exact⟨_,now,snaps,z,0,aU,rfl,pS u (by omega) rfl (Vf (d:=(5,a,k,b)) D),u,⟨rfl,by simp only;omega,A,by simp only;omega,by simp only;omega,B,C⟩⟩
theorem aCf(h:Inv v now snaps s){a k:Int}{b:aQ}(ha:Va a):Jo v now snaps s (6,a,k,b):=by
 obtain⟨z,A,u⟩:=aHy h ha;exact⟨v,now,snaps,z,0,aU,rfl,pS u (by omega) rfl (aFs (d:=(6,a,k,b)) A),u,nT v⟩
theorem Vh(h:Inv v now snaps s){a k:Int}{b:aQ}(ha:Va a):Jo v now snaps s (7,a,k,b):=by
 obtain⟨z,A,u⟩:=aB1 h ha;exact⟨v,now,snaps,z,0,aU,rfl,pS u (by omega) rfl (Xs (d:=(7,a,k,b)) A),u,nT v⟩
theorem Vi(h:Inv v now snaps s)(hb:v.fb+1<=3000){a k:Int}{b:aQ}:Jo v now snaps s (8,a,k,b):=by
 have H:=h.big;have I:=h.hs;have K:=h.n1;obtain⟨F,G,_,u⟩:=aB4 h hb (8,a,k,b);refine⟨_,_,snaps,F,0,aU,?_,pS (i:=8) u (by omega) rfl G,u,⟨rfl,by simp only;omega,aDn _,aDn _,by simp only;omega,by simp only;omega,by simp only;omega⟩⟩;have z:snaps.getD v.h []∈snaps:=by
  rw[aEg,aCl (by omega)];exact aKu _
 show ((fM (now,snaps)).bind fun C=>(Sw.idx snaps C).bind fun D=>(iW D).bind fun E=>some ((0:Int),aU,E,snaps))=_;have A:fM (now,snaps)=some (v.h:Int):=by
  unfold fM;rw[subI (by simp only;omega)];simp only;congr 1;omega
 have B:Sw.idx snaps (v.h:Int)=some (snaps.getD v.h []):=rD (by rw[aEg,aCl (by omega)];rfl);rw[A,cM,B,cM,aFt _ (by have:=h.ep.len _ z;omega)];rfl
theorem Vj(h:Inv v now snaps s)(hb:v.ob+1<=3000){a k:Int}{b:aQ}:Jo v now snaps s (9,a,k,b):=by
 obtain⟨z,A,_,u⟩:=aB5 h hb (9,a,k,b);exact⟨_,now,snaps,z,0,aU,rfl,pS (i:=9) u (by omega) rfl A,u,⟨rfl,by simp only;omega,aDn _,by simp only;omega,aDn _,by simp only;omega,by simp only;omega⟩⟩
theorem Vk(h:Inv v now snaps s){a k:Int}{b:aQ}(ha:Va a)(hk:Va k)(hb:yB b):Jo v now snaps s (10,a,k,b):=by
 obtain⟨z,A,u⟩:=aB3 h (d:=(10,a,k,b)) ha hk hb;exact⟨v,now,snaps,z,0,aU,rfl,pS u (by omega) rfl (Xt (d:=(10,a,k,b)) A),u,nT v⟩
theorem aLh(h:Inv v now snaps s)(hb:v.h+1<=100000/\v.fb+1<=3000/\v.ob+1<=3000/\v.q+1<=100000/\v.x+1<=100000){d:Int×Int×Int×aQ}(h1:Va d.2.1)(h2:Va d.2.2.1)(h3:yB d.2.2.2):Jo v now snaps s d:=by
 obtain⟨c,a,k,b⟩:=d;simp only at h1 h2 h3;by_cases z:c<0\/11<=c
 ·refine⟨v,now,snaps,s,3,aU,?_,aH4 h z,h,nT v⟩;have A:(bif (cm .lss c (0:Int)) then some true else some (cm .geq c (11:Int)))=some true:=by
   rw[cl,cge];by_cases u:c<0
   ·rw[aIc u];rfl
   ·rw[aBb u,aIc (by omega)];rfl
  unfold hO;rw[A];rfl
 ·have B:c=0\/c=1\/c=2\/c=3\/c=4\/c=5\/c=6\/c=7\/c=8\/c=9\/c=10:=by omega
  rcases B with rfl | rfl | rfl | rfl | rfl | rfl | rfl | rfl | rfl | rfl | rfl
  ·exact aFu h h3
  ·exact aCc h
  ·exact aCd h
  ·exact Rq h hb.1
  ·exact aCe h
  ·exact Rr h hb.2.2.2.1 hb.2.2.2.2 h1
  ·exact aCf h h1
  ·exact Vh h h1
  ·exact Vi h hb.2.1
  ·exact Vj h hb.2.2.1
  ·exact Vk h h1 h2 h3
end Go.PlMi
namespace Go.PlMi
open Go Go.Sw Go.Mo Go.Pl
abbrev Bx:=Int×Int×Int×aQ
abbrev Bh:=Int×aQ×Int×Int×Int×List aQ
def Rs(d:Bx):Prop:=Va d.2.1/\Va d.2.2.1/\yB d.2.2.2
inductive Runs:Nm->List aQ->List (List aQ)->PS->List Bx->List Bh->Nm->List aQ->List (List aQ)->PS->Prop where
 |nil {v now snaps s} (h:Inv v now snaps s):Runs v now snaps s [] [] v now snaps s
 |cons {v now snaps s v' now' snaps' s' v2 now2 snaps2 s2} {d:Bx} {ds:List Bx} {rs:List Bh} {oJ:Int} {blk:aQ} (h:Inv v now snaps s) (hc:hO now snaps d=some (oJ,blk,now',snaps'))
   (hd:mC d s=some ((oJ,blk,(v'.h:Int),s'.safe,(v'.k:Int),snaps'.getD v'.k []),none,s')) (h':Inv v' now' snaps' s') (g:Grow v v') (t:Runs v' now' snaps' s' ds rs v2 now2 snaps2 s2):
   Runs v now snaps s (d::ds) ((oJ,blk,(v'.h:Int),s'.safe,(v'.k:Int),snaps'.getD v'.k [])::rs) v2 now2 snaps2 s2
theorem aAj:∀(ds:List Bx) {v:Nm} {now:List aQ} {snaps:List (List aQ)} {s:PS},Inv v now snaps s->(∀d∈ds,Rs d)->v.h+ds.length<=100000->v.fb+ds.length<=3000->v.ob+ds.length<=3000->v.q+ds.length<=100000->v.x+ds.length<=100000->
  ∃rs v2 now2 snaps2 s2,Runs v now snaps s ds rs v2 now2 snaps2 s2/\rs.length=ds.length/\Inv v2 now2 snaps2 s2
 | [],v,now,snaps,s,h,_,_,_,_,_,_=>⟨[],v,now,snaps,s,.nil h,rfl,h⟩
 |d::ds,v,now,snaps,s,h,A,L,M,N,O,P=>by
  simp only[aIa] at L M N O P;obtain⟨C,D,E⟩:=A d (aJ8 ..);obtain⟨V,X,aa,s',oJ,blk,F,G,z,u⟩:=aLh h (by omega) C D E;have Q:=u.h;have R:=u.fb;have S:=u.ob;have T:=u.q;have U:=u.x;obtain⟨rs,v2,now2,snaps2,s2,H,I,K⟩:=aAj ds z (fun x B=>A x (aI8 _ B)) (by omega) (by omega) (by omega) (by omega) (by omega);exact⟨_,v2,now2,snaps2,s2,.cons h F G z u H,by simp[I],K⟩
theorem Xu{n:Nat}(h0:1<=n)(h1:n<=32){ds:List Bx}(hl:ds.length<=300)(hd:∀d∈ds,Rs d):
  ∃s0 rs v2 now2 snaps2 s2,iO (n:Int)=some (some (tup s0),none)/\Inv ⟨n,0,1,1,0,0,0⟩ (List.replicate n aU) [List.replicate n aU] s0/\
   Runs ⟨n,0,1,1,0,0,0⟩ (List.replicate n aU) [List.replicate n aU] s0 ds rs v2 now2 snaps2 s2/\rs.length=ds.length/\Inv v2 now2 snaps2 s2:=by
 obtain⟨u,z,A,B,C⟩:=aFd h0 h1;have h:=aB0 h0 h1 A B;obtain⟨rs,v2,now2,snaps2,s2,D,E,F⟩:=aAj ds h hd (by simp only;omega) (by simp only;omega) (by simp only;omega) (by simp only;omega) (by simp only;omega);exact⟨Im n u z,rs,v2,now2,snaps2,s2,C,h,D,E,F⟩
def ord(i:Int)(s:PS)(rs:List Bh):=(i,s.n,s.fn,s.fnum,s.boots,s.epochs,s.session,s.sender,s.sent,s.safe,s.on,s.onum,s.oboots,s.first,s.receiver,rs,s.fsn,s.fd,s.blocks,s.past,s.offered,s.osn,s.od,s.net)
theorem aFv{δ:Type}{step:_->Option (Step _ δ)}{l:List Bx}{fin:PS->List Bh->δ}
  (hs:∀(i:Nat) (d:Bx) (s s':PS) (acc:List Bh) (r:Bh),l[i]? =some d->i<=1000->acc.length<=1000->mC d s=some (r,none,s')->step (ord (i:Int) s acc)=some (.next (ord ((i+1:Nat):Int) s' (acc++[r]))))
  (he:∀(s:PS) (acc:List Bh),step (ord (l.length:Int) s acc)=some (.done (fin s acc))) (hl:l.length<=1000):
  ∀{v now snaps s ds rs v2 now2 snaps2 s2},Runs v now snaps s ds rs v2 now2 snaps2 s2->∀(pre:List Bx) (acc:List Bh) (f:Nat),l=pre++ds->acc.length=pre.length->ds.length<f->
   loop step f (ord (pre.length:Int) s acc)=some (fin s2 (acc++rs)):=by
 intro v now snaps s ds rs v2 now2 snaps2 s2 t
 induction t with
 |nil h=>
  intro pre acc f u B z;obtain⟨f,rfl⟩:∃g,f=g+1:=⟨f - 1,by simp at z;omega⟩
  have:pre=l:=by simpa using u.symm
  rw[this,Go.PlFr.loop_done (he _ _),aKc]
 |cons h F C G g t D=>
  rename_i d ds rs oJ blk;intro pre acc f u B z;simp only[aIa] at z;obtain⟨f,rfl⟩:∃g,f=g+1:=⟨f - 1,by omega⟩
  have E:l.length=pre.length+ds.length+1:=by rw[u];simp;omega
  rw[Go.PlFr.loop_next (hs pre.length d _ _ acc _ (by rw[u];simp) (by omega) (by omega) C)];have A:=fun r:Bh=>D (pre++[d]) (acc++[r]) f (by rw[u];simp) (by simp[B]) (by omega);simp only[sM,aM5,aE2,aOb] at A ⊢;exact A _
end Go.PlMi
namespace Go.PlMi
open Go Go.Sw Go.Mo Go.Pl
theorem aH5{a0:Int}{ds:List Bx}(h:a0<1\/32<a0):hC a0 ds=some ([],some 1):=by
 have z:(bif (cm .lss a0 (1:Int)) then some true else some (cm .gtr a0 (32:Int)))=some true:=by
  rw[cl,cg];by_cases u:a0<1
  ·rw[aIc u];rfl
  ·rw[aBb u,aIc (by omega)];rfl
 unfold hC fZ;rw[z];rfl
theorem aFw{n:Nat}(h0:1<=n)(h1:n<=32){ds:List Bx}(hl:300<ds.length):hC (n:Int) ds=some ([],some 2):=by
 have h:cm .lss (n:Int) (1:Int)=false:=by rw[cl];exact aBb (by omega)
 have u:cm .gtr (n:Int) (32:Int)=false:=by rw[cg];exact aBb (by omega)
 have z:cm .gtr (ds.length:Int) (300:Int)=true:=by rw[cg];exact aIc (by omega)
 unfold hC fZ;rw[h,u,z];rfl
theorem aJ1{n:Nat}(h0:1<=n)(h1:n<=32){ds:List Bx}(hl:ds.length<=300){s0:PS}(hst:iO (n:Int)=some (some (tup s0),none)){v now snaps rs v2 now2 snaps2 s2}(t:Runs v now snaps s0 ds rs v2 now2 snaps2 s2):
  fZ (n:Int) ds=some (some (tup s2),rs,none)/\hC (n:Int) ds=some (rs,none):=by
 have B:cm .lss (n:Int) (1:Int)=false:=by rw[cl];exact aBb (by omega)
 have C:cm .gtr (n:Int) (32:Int)=false:=by rw[cg];exact aBb (by omega)
 have D:cm .gtr (ds.length:Int) (300:Int)=false:=by rw[cg];exact aBb (by omega)
 have u:fZ (n:Int) ds=some (some (tup s2),rs,none):=by
  unfold fZ;rw[B,C,D];simp only[pF,cM];rw[hst,cM];simp only[uV,aA8,pF];unfold lp
  rw[show (((0:Int),(tup s0).1,(tup s0).2.1,(tup s0).2.2.1,(tup s0).2.2.2.1,(tup s0).2.2.2.2.2.1,(tup s0).2.2.2.2.2.2.2.1,(tup s0).2.2.2.2.2.2.2.2.1,(tup s0).2.2.2.2.2.2.2.2.2.1,(tup s0).2.2.2.2.2.2.2.2.2.2.1,(tup s0).2.2.2.2.2.2.2.2.2.2.2.2.1,(tup s0).2.2.2.2.2.2.2.2.2.2.2.2.2.1,(tup s0).2.2.2.2.2.2.2.2.2.2.2.2.2.2.1,(tup s0).2.2.2.2.2.2.2.2.2.2.2.2.2.2.2.1,(tup s0).2.2.2.2.2.2.2.2.2.2.2.2.2.2.2.2.1,([]:(List (Int×aQ×Int×Int×Int×(List aQ)))),(tup s0).2.2.2.2.2.2.2.2.2.2.2.2.2.2.2.2.2.2.1,(tup s0).2.2.2.2.2.2.2.2.2.2.2.2.2.2.2.2.2.2.2.1,(tup s0).2.2.2.2.1,(tup s0).2.2.2.2.2.2.1,(tup s0).2.2.2.2.2.2.2.2.2.2.2.1,(tup s0).2.2.2.2.2.2.2.2.2.2.2.2.2.2.2.2.2.2.2.2.1,(tup s0).2.2.2.2.2.2.2.2.2.2.2.2.2.2.2.2.2.2.2.2.2,(tup s0).2.2.2.2.2.2.2.2.2.2.2.2.2.2.2.2.2.1))=ord ((([]:List Bx).length:Nat):Int) s0 [] from rfl,
   aFv (l:=ds) (fin:=fun s rs=>Ex.brk (ord 0 s rs).2) ?_ ?_ (by omega) t [] [] fI rfl rfl (by unfold fI;omega)]
  ·rfl
  ·intro i d s I acc r A K L h;unfold mC at h;have H:i<ds.length:=(aMj.1 A).1;have E:cm .lss (i:Int) (ds.length:Int)=true:=by rw[cl];exact aIc (by omega)
   simp only[ord];rw[E,aCj,rD A,cM];cases hz:gP d s.n s.fn s.fnum s.boots s.blocks s.epochs s.past s.session s.sender s.sent s.safe s.offered s.on s.onum s.oboots s.first s.receiver s.net s.fsn s.fd s.osn s.od with
   |none=>rw[hz] at h;cases h
   |some z=>
    rw[hz] at h;simp only[cM,aD2,aKq] at h;obtain⟨rfl,G,rfl⟩:=h;rw[cM];simp only[G,aA8,pF];rw[app_small _ _ (by simp;omega),cM,nxt (by omega)]
  ·intro s acc;have F:cm .lss (ds.length:Int) (ds.length:Int)=false:=by rw[cl];exact aBb (by omega)
   simp only[ord];rw[F,pF]
 refine⟨u,?_⟩;unfold hC;rw[u];rfl
end Go.PlMi
namespace Go.PlMi
open Go Go.Sw Go.Mo Go.Pl
theorem aFx{δ:Type}{step:Int×Int×List aQ×List (List aQ)->Option (Step (Int×Int×List aQ×List (List aQ)) δ)}{l:List Bx}{L:List Bh}{fin:δ}
  (hs:∀(i:Nat) (d:Bx) (v v':Nm) (now now':List aQ) (snaps snaps':List (List aQ)) (s':PS) (back oJ:Int) (blk:aQ),l[i]? =some d->L[i]? =some (oJ,blk,(v'.h:Int),s'.safe,(v'.k:Int),snaps'.getD v'.k [])->i<=1000->
   hO now snaps d=some (oJ,blk,now',snaps')->Inv v' now' snaps' s'->Grow v v'->back<=v.k->step (back,(i:Int),now,snaps)=some (.next ((v'.k:Int),((i+1:Nat):Int),now',snaps')))
  (he:∀back now snaps,step (back,(L.length:Int),now,snaps)=some (.done fin)) (hl:l.length<=1000):
  ∀{v now snaps s ds rs v2 now2 snaps2 s2},Runs v now snaps s ds rs v2 now2 snaps2 s2->∀(pre:List Bx) (preR:List Bh) (back:Int) (f:Nat),l=pre++ds->L=preR++rs->preR.length=pre.length->back<=v.k->ds.length<f->
   loop step f (back,(pre.length:Int),now,snaps)=some fin:=by
 intro v now snaps s ds rs v2 now2 snaps2 s2 t
 induction t with
 |nil h=>
  intro pre preR back f u z A D B;obtain⟨f,rfl⟩:∃g,f=g+1:=⟨f - 1,by simp at B;omega⟩
  have:preR=L:=by simpa using z.symm
  rw[<-A,this,Go.PlFr.loop_done (he _ _ _)]
 |cons h E I F g t G=>
  rename_i d ds rs oJ blk;intro pre preR back f u z A D B;simp only[aIa] at B;obtain⟨f,rfl⟩:∃g,f=g+1:=⟨f - 1,by omega⟩
  have H:l.length=pre.length+ds.length+1:=by rw[u];simp;omega
  rw[Go.PlFr.loop_next (hs pre.length d _ _ _ _ _ _ _ back oJ blk (by rw[u];simp) (by rw[z,<-A];simp) (by omega) E F g D)];have C:=fun r:Bh=>fun e=>G (pre++[d]) (preR++[r]) _ f (by rw[u];simp) e (by simp[A]) (aNp _) (by omega);simp only[sM,aM5,aE2,aOb] at C ⊢;exact C _ z
theorem Xv{n:Nat}(h1:n<=32):jZ (n:Int)=some (some (List.replicate n aU,[List.replicate n aU])):=by
 have h:Sw.mk (n:Int) aU=some (List.replicate n aU):=by
  unfold Sw.mk;rw[aF2 (by omega)];simp
 unfold jZ;rw[h,cM,cM,app_small _ _ (by simp)];rfl
theorem Nx(a0:Int)(ds:List Bx)(hd:∀d∈ds,Rs d):gQ a0 ds=some true:=by
 by_cases O:a0<1\/32<a0
 ·have P:(bif (cm .lss a0 (1:Int)) then some true else some (cm .gtr a0 (32:Int)))=some true:=by
   rw[cl,cg];by_cases F:a0<1
   ·rw[aIc F];rfl
   ·rw[aBb F,aIc (by omega)];rfl
  unfold gQ;rw[aH5 O,cM,P];rfl
 ·obtain⟨n,rfl⟩:∃n:Nat,a0=(n:Int):=⟨a0.toNat,by omega⟩
  have C:1<=n:=by omega
  have B:n<=32:=by omega
  have G:cm .lss (n:Int) (1:Int)=false:=by rw[cl];exact aBb (by omega)
  have H:cm .gtr (n:Int) (32:Int)=false:=by rw[cg];exact aBb (by omega)
  by_cases Q:300<ds.length
  ·have D:cm .gtr (ds.length:Int) (300:Int)=true:=by rw[cg];exact aIc (by omega)
   unfold gQ;rw[aFw C B Q,cM,G,H,D];rfl
  ·have D:cm .gtr (ds.length:Int) (300:Int)=false:=by rw[cg];exact aBb (by omega)
   obtain⟨s0,A,v2,an,ao,s2,a1,a2,N,a4,a5⟩:=Xu C B (by omega:ds.length<=300) hd;have R:=(aJ1 C B (by omega) a1 N).2;have S:cm .neq (A.length:Int) (ds.length:Int)=false:=by rw[cn,a4];simp
   have T:cm .neq (0:Int) (0:Int)=false:=rfl;unfold gQ;rw[R,cM,G,H,D];simp only[pF,cM,jp,T,aA8,S];rw[Xv B,cM];simp only[uV];unfold lp
   rw[show (((0:Int),(0:Int),List.replicate n aU,[List.replicate n aU]):Int×Int×List aQ×List (List aQ))=(0,((([]:List Bx).length:Nat):Int),List.replicate n aU,[List.replicate n aU]) from rfl,
    aFx (l:=ds) (L:=A) (fin:=Ex.brk ()) ?_ ?_ (by omega) N [] [] 0 fI rfl rfl rfl (by omega) (by unfold fI;omega)]
   ·intro i d v u ab ac ad snaps' I K oJ blk hi M am hc z g hb;have ae:i<A.length:=(aMj.1 M).1;have E:cm .lss (i:Int) (A.length:Int)=true:=by rw[cl];exact aIc (by omega)
    have af:=z.hs;have ah:=z.kh;have ai:=z.safe;have aj:=z.big;have ak:=g.k;have al:=z.n1;have U:fM (ac,snaps')=some (u.h:Int):=by
     unfold fM;rw[subI (by simp only;omega)];simp only;congr 1;omega
    have V:∀x:Int,cm .neq x x=false:=fun x=>by rw[cn];simp
    have X:cm .lss (u.k:Int) K=false:=by rw[cl];exact aBb (by omega)
    have e5:cm .gtr (u.k:Int) (u.h:Int)=false:=by rw[cg];exact aBb (by omega)
    have e6:cm .lss I.safe (0:Int)=false:=by rw[cl];exact aBb (by omega)
    have e7:cm .gtr I.safe (u.k:Int)=false:=by rw[cg];exact aBb (by omega)
    have e8:Sw.idx snaps' (u.k:Int)=some (snaps'.getD u.k []):=rD (by rw[aEg,aCl (by omega)];rfl);have aa:snaps'.getD u.k []∈snaps':=by
     rw[aEg,aCl (by omega)];exact aKu _
    have e9:=Go.PlSt.sameBlocks_self (snaps'.getD u.k []) (by have:=z.ep.len _ aa;omega);simp only[E,aCj,rD hi,rD M,cM,hc,U,V,X,e5,e6,e7,e8,e9,pF,aMi,aLr];rw[nxt (by omega)]
   ·intro K ab ad;have E:cm .lss (A.length:Int) (A.length:Int)=false:=by rw[cl];exact aBb (by omega)
    simp only[E,pF]
end Go.PlMi
namespace Go.Pl
open Go Go.Sw Go.Mo Go.PlMi
theorem aH6{d:Int×Int×Int×aQ}(h:Wf (Enc.pr (Enc.int .i64) (Enc.pr (Enc.int .i64) (Enc.pr (Enc.int .i64) aN))) d):Rs d:=by
 have u:=h.pr.2;have z:=u.pr.2;refine⟨u.pr.1.int,z.pr.1.int,?_⟩;have A:=z.pr.2.arr;exact⟨A.1,fun x B=>by have:=(A.2 x B).int;exact this⟩
theorem aCg{a0:Int}{ds:List (Int×Int×Int×aQ)}(h:Wf (Enc.sl (Enc.pr (Enc.int .i64) (Enc.pr (Enc.int .i64) (Enc.pr (Enc.int .i64) aN)))) ds):gQ a0 ds=some true:=Nx a0 ds fun d u=>aH6 (h.sl.2 d u)
end Go.Pl
namespace Go.Sw
open Go Go.RowKit Go.WideShapes
theorem Mz{α β:Type}{f:α->Option β}:∀{l:List α} {ys:List β},l.mapM f=some ys->∀x∈l,∃y∈ys,f x=some y
 | [],_,_,x,u=>by simp at u
 |a::l,ys,h,x,u=>by
  rw[aMv] at h;cases ha:f a with
  |none=>rw[ha] at h;simp at h
  |some y=>
   rw[ha] at h;cases hl:l.mapM f with
   |none=>rw[hl] at h;simp at h
   |some zs=>
    rw[hl] at h;obtain rfl:ys=y::zs:=by simpa using h.symm
    rcases aF3.1 u with rfl | u
    ·exact⟨y,by simp,ha⟩
    ·obtain⟨z,A,B⟩:=Mz hl x u;exact⟨z,by simp[A],B⟩
theorem Vl{α β:Type}{f:α->Option β}:∀{l:List α} {ys:List β},l.mapM f=some ys->ys.length=l.length
 | [],ys,h=>by simp at h;subst h;rfl
 |a::l,ys,h=>by
  rw[aMv] at h;cases ha:f a with
  |none=>rw[ha] at h;simp at h
  |some y=>
   rw[ha] at h;cases hl:l.mapM f with
   |none=>rw[hl] at h;simp at h
   |some zs=>
    rw[hl] at h;obtain rfl:ys=y::zs:=by simpa using h.symm
    simp[Vl hl]
theorem xB{H:Type}{P:Program}{E n:Nat}{d:DataW H}:∀{l:List (DataW H)},d∈l->n∈d.weights P E->n∈DataW.weightsAll P E l
 | [],h,_=>by simp at h
 |x::l,h,u=>by
  rw[DataW.weightsAll,aI9];rcases aF3.1 h with rfl | h
  ·exact .inl u
  ·exact .inr (xB h u)
def RdE{α:Type}(P:Program)(T:TypeId)(e:Enc α):Prop:=∀(H:Type) (enc:TypeId×Value->H) (w:World) (spare:Nat->Bool) (held:Bool) (fuel:Nat) (cs:List Value) (d:DataW H) (ps:List MemPlace),
 DataW.trod enc P w 0 spare held fuel T cs=some (d,ps)->(∀n∈d.weights P T,n<=reachBytes)->∃x,e.ok x (fun _=>False) w cs
theorem aJ2{k:IntKind}{n:Int}(h:(Lit.int k n).wf=true):Db k n:=by
 unfold Lit.wf at h;simp at h;exact h
theorem RdE.int{P:Program}{T:TypeId}{k:IntKind}(h:P.underlying T=some (.int k)):RdE P T (Enc.int k):=by
 intro H enc w D E z F d G u I;cases z with
 |zero=>simp[DataW.trod] at u
 |succ z=>
  unfold DataW.trod at u;rw[h] at u;split at u<;>first | (exfalso;simp_all;done) | skip
  rename_i k1 K n A;obtain rfl:k=k1:=by simpa using A
  split at u
  ·rename_i B;obtain⟨rfl,C⟩:=B;exact⟨n,rfl,aJ2 C⟩
  ·cases u
theorem aFy{α:Type}{e:Enc α}{S:Nat->Prop}{w:World}:∀(n:Nat) (cs:List Value),cs.length=n*e.n->(∀i,i<n->∃x,e.ok x S w ((cs.drop (i*e.n)).take e.n))->∃xs:List α,xs.length=n/\e.okL xs S w cs
 | 0,cs,u,_=>⟨[],rfl,by simp at u;subst u;rfl⟩
 |n+1,cs,u,h=>by
  obtain⟨x,A⟩:=h 0 (by omega)
  obtain⟨xs,B,C⟩:=aFy (e:=e) (S:=S) (w:=w) n (cs.drop e.n) (by rw[aJc,u,aOm];omega) (fun i D=>by
   obtain⟨y,z⟩:=h (i+1) (by omega);refine⟨y,?_⟩;rw[aNk];rw[aOm,aM8] at z
   exact z)
  refine⟨x::xs,by simp[B],cs.take e.n,cs.drop e.n,by rw[aId],by simpa using A,C⟩
theorem RdE.arr{α:Type}{P:Program}{T E:TypeId}{m:Nat}{e:Enc α}(h:P.underlying T=some (.array m E))(hc:P.cellsOf T=m*e.n)(hE:P.cellsOf E=e.n)(he:RdE P E e):RdE P T (Enc.arr m e):=by
 intro H enc w B C z A d R u F;cases z with
 |zero=>simp[DataW.trod] at u
 |succ z=>
  unfold DataW.trod at u;rw[h] at u;split at u<;>first | (exfalso;simp_all;done) | skip
  rename_i A U V G E1 I;obtain⟨rfl,rfl⟩:m=G/\E=E1:=by simpa using I
  split at u
  ·rename_i K;cases hm:(List.range m).mapM fun i=>DataW.trod enc P w 0 B C z E ((A.drop (i*P.cellsOf E)).take (P.cellsOf E)) with
   |none=>rw[hm] at u;simp at u
   |some ys=>
    obtain⟨xs,N,O⟩:=aFy (e:=e) (S:=fun _=>False) (w:=w) m A (by rw[K,hc]) (fun i L=>by
     obtain⟨⟨X,aa⟩,Q,D⟩:=Mz hm i (by simpa using L);rw[hE] at D;refine he H enc w B C z _ _ _ D fun n M=>F n ?_;rw[hm] at u;simp only[aLm,aD2,aKq] at u;rw[<-u.1,DataW.weights,h]
     exact xB (aK3.2 ⟨_,Q,rfl⟩) M)
    exact⟨xs,N,O⟩
  ·cases u
def RdFs{α:Type}(P:Program)(fs:List Field)(off:Nat)(e:Enc α):Prop:=∀(H:Type) (enc:TypeId×Value->H) (w:World) (spare:Nat->Bool) (held:Bool) (fuel:Nat) (cs:List Value) (ys:List (DataW H×List MemPlace)),
 cs.length=off+e.n->(fs.mapM fun f=>DataW.trod enc P w 0 spare held fuel f.type ((cs.drop f.offset).take (P.cellsOf f.type)))=some ys->(∀n∈DataW.weightsEach P (fs.map (·.type)) (ys.map (·.1)),n<=reachBytes)->∃x,e.ok x (fun _=>False) w (cs.drop off)
theorem Da{α β:Type}{f:α->Option β}{a:α}{l:List α}{ys:List β}(h:(a::l).mapM f=some ys):∃y zs,f a=some y/\l.mapM f=some zs/\ys=y::zs:=by
 rw[aMv] at h;cases ha:f a with
 |none=>rw[ha] at h;simp at h
 |some y=>
  rw[ha] at h;cases hl:l.mapM f with
  |none=>rw[hl] at h;simp at h
  |some zs=>rw[hl] at h;exact⟨y,zs,rfl,rfl,by simpa using h.symm⟩
theorem RdFs.last{α:Type}{P:Program}{f:Field}{off:Nat}{e:Enc α}(ho:f.offset=off)(hc:P.cellsOf f.type=e.n)(he:RdE P f.type e):RdFs P [f] off e:=by
 intro H enc w z A B G I C D E;obtain⟨⟨d,K⟩,L,h,M,rfl⟩:=Da D;rw[ho,hc] at h;obtain⟨x,u⟩:=he H enc w z A B _ _ _ h fun n F=>E n (by simp only[aIx,DataW.weightsEach,aI9];exact .inl F);rw[aLs (by rw[aJc,C];omega)] at u;exact⟨x,u⟩
theorem RdFs.cons{α β:Type}{P:Program}{f:Field}{fs:List Field}{off:Nat}{a:Enc α}{b:Enc β}(ho:f.offset=off)(hc:P.cellsOf f.type=a.n)(he:RdE P f.type a)(hr:RdFs P fs (off+a.n) b):RdFs P (f::fs) off (Enc.pr a b):=by
 intro H enc w A B C u L E F D;obtain⟨⟨d,M⟩,G,h,I,rfl⟩:=Da F;rw[ho,hc] at h;obtain⟨x,K⟩:=he H enc w A B C _ _ _ h fun n z=>D n (by simp only[aIx,DataW.weightsEach,aI9];exact .inl z);obtain⟨y,h⟩:=hr H enc w A B C u G (by simp only[Enc.pr] at E;omega) I fun n z=>D n (by simp only[aIx,DataW.weightsEach,aI9];exact .inr z);refine⟨(x,y),(u.drop off).take a.n,u.drop (off+a.n),?_,K,h⟩;rw[<-aNk,aId]
theorem RdE.struct{α:Type}{P:Program}{T:TypeId}{fs:Array Field}{e:Enc α}(h:P.underlying T=some (.struct fs))(hc:P.cellsOf T=e.n)(hf:RdFs P fs.toList 0 e):RdE P T e:=by
 intro H enc w B C z A d L u D;cases z with
 |zero=>simp[DataW.trod] at u
 |succ z=>
  unfold DataW.trod at u;rw[h] at u;split at u<;>first | (exfalso;simp_all;done) | skip
  rename_i A M N fs1 E;obtain rfl:fs=fs1:=by simpa using E
  split at u
  ·rename_i F;cases hm:fs.toList.mapM fun f=>DataW.trod enc P w 0 B C z f.type ((A.drop f.offset).take (P.cellsOf f.type)) with
   |none=>rw[hm] at u;simp at u
   |some K=>
    rw[hm] at u;simp only[aLm,aD2,aKq] at u;obtain⟨x,I⟩:=hf H enc w B C z A K (by rw[F,hc];omega) hm fun n G=>D n (by rw[<-u.1,DataW.weights,h];exact G);exact⟨x,by simpa using I⟩
  ·cases u
theorem Pv{w:World}{b off:Nat}{sp:Option Nat}{n:Nat}{cs:List Value}(h:w.cells? 0 ⟨b,off,sp⟩ n=some cs):cs.length=n/\∀i,i<n->∃v,cs[i]? =some v/\w.cell? (Addr.add ⟨b,off,sp⟩ i)=some v:=by
 unfold World.cells? at h;rw[aF2 (aOu _)] at h;have C:∀(l:List Nat) (u:List Value),l.mapM (fun i=>w.cell? (Addr.add ⟨b,off,sp⟩ i))=some u->u.length=l.length/\∀j,j<l.length->∃v,u[j]? =some v/\∃i,l[j]? =some i/\w.cell? (Addr.add ⟨b,off,sp⟩ i)=some v:=by
  intro l
  induction l with
  |nil=>intro u h;simp at h;subst h;simp
  |cons a l H=>
   intro u h;rw[aMv] at h;cases ha:w.cell? (Addr.add ⟨b,off,sp⟩ a) with
   |none=>rw[ha] at h;simp at h
   |some y=>
    rw[ha] at h;cases hl:l.mapM (fun i=>w.cell? (Addr.add ⟨b,off,sp⟩ i)) with
    |none=>rw[hl] at h;simp at h
    |some zs=>
     rw[hl] at h;obtain rfl:u=y::zs:=by simpa using h.symm
     obtain⟨z,A⟩:=H zs hl;refine⟨by simp[z],fun j D=>?_⟩;cases j with
     |zero=>exact⟨y,rfl,a,rfl,ha⟩
     |succ j=>exact A j (by simpa using D)
 obtain⟨z,A⟩:=C _ _ h;refine⟨by simpa using z,fun i B=>?_⟩;obtain⟨v,E,j,F,G⟩:=A i (by simpa using B);have:j=i:=by simpa[B] using F.symm
 subst this;exact⟨v,E,G⟩
theorem Na{w:World}{b off:Nat}{sp:Option Nat}{v:Value}(h:w.cell? ⟨b,off,sp⟩=some v):sp=none/\∃c T fr,w.heap[b]? =some (.cells c T fr)/\c[off]? =some v:=by
 unfold World.cell? at h;split at h
 ·rename_i c T fr u;split at h
  ·cases h
  ·rename_i z;refine⟨by cases sp<;>simp_all,c,T,fr,u,h⟩
 ·cases h
theorem aFz{α:Type}{e:Enc α}{w:World}{b off:Nat}{sp:Option Nat}(hpos:0<e.n):∀(n:Nat),(∀i,i<n+1->∃x cs,w.cells? 0 (Addr.add ⟨b,off,sp⟩ (i*e.n)) e.n=some cs/\e.ok x (fun _=>False) w cs)->
  ∃(xs:List α) (ds:List Value),sp=none/\xs.length=n+1/\b<w.heap.size/\MemAt w b off ds/\e.okL xs (fun _=>False) w ds:=by
 intro n h;obtain⟨x0,ab,D,_⟩:=h 0 (by omega);simp only[Nat.zero_mul] at D;obtain⟨ac,M⟩:=Pv D;obtain⟨v0,_,N⟩:=M 0 hpos;obtain⟨O,c,T,E,z,_⟩:=Na N;subst O;have K:b<w.heap.size:=(aKw.1 z).1;have L:∀m o,(∀i,i<m->∃x cs,w.cells? 0 (Addr.add ⟨b,o,none⟩ (i*e.n)) e.n=some cs/\e.ok x (fun _=>False) w cs)->∃(xs:List α) (ds:List Value),xs.length=m/\(∀j (u:j<ds.length),c[o+j]? =some ds[j])/\e.okL xs (fun _=>False) w ds:=by
  intro m
  induction m with
  |zero=>intro o _;exact⟨[],[],rfl,fun j u=>by simp at u,rfl⟩
  |succ m ih=>
   intro o h;obtain⟨x,cs,F,P⟩:=h 0 (by omega);simp only[Nat.zero_mul] at F;obtain⟨G,A⟩:=Pv F
   obtain⟨xs,ds,B,Q,R⟩:=ih (o+e.n) (fun i hi=>by
    obtain⟨y,S,U,V⟩:=h (i+1) (by omega);refine⟨y,S,?_,V⟩;rw[<-U,Addr.add_lit,Addr.add_lit,aOm]
    congr 2;omega)
   refine⟨x::xs,cs++ds,by simp[B],fun j u=>?_,cs,ds,rfl,P,R⟩;by_cases C:j<cs.length
   ·obtain⟨v,X,H⟩:=A j (by omega);rw[Addr.add_lit] at H;obtain⟨_,c',T',fr',I,aa⟩:=Na H;rw[z] at I;obtain⟨rfl,rfl,rfl⟩:c=c'/\T=T'/\E=fr':=by simpa using I
    rw[aNg C];have:cs[j]=v:=by simpa[C] using X
    rw[this];simpa using aa
   ·rw[List.getElem_append_right (by omega)];have:=Q (j - cs.length) (by simp at u;omega);rw[<-this];congr 1;omega
 obtain⟨xs,ds,G,A,B⟩:=L (n+1) off h;exact⟨xs,ds,rfl,G,K,⟨c,T,E,z,A⟩,B⟩
theorem RdE.sl{α:Type}{P:Program}{T E:TypeId}{e:Enc α}(h:P.underlying T=some (.slice E))(hE:P.cellsOf E=e.n)(hpos:Nat.blt 0 e.n=true)(hby:Nat.blt 0 (P.bytesOf E)=true)(he:RdE P E e):RdE P T (Enc.sl e):=by
 intro H enc w C D z cs d ps u A;have hpos:=aCi hpos;cases z with
 |zero=>simp[DataW.trod] at u
 |succ z=>
  unfold DataW.trod at u;rw[h] at u;split at u<;>first | (exfalso;simp_all;done) | skip
  ·exact⟨[],none,0,rfl,by simp,.inl rfl⟩
  ·rename_i E1 a len F Q;obtain rfl:E=E1:=by simpa using Q
   simp only at u;split at u
   ·rename_i R;obtain⟨_,h1,h2⟩:=R;cases len with
    |zero=>exact⟨[],some a,F,rfl,⟨by simp,by simp⟩,.inl rfl⟩
    |succ n=>
     cases hm:(List.range (n+1)).mapM fun i=>(w.cells? 0 (a.add (i*P.cellsOf E)) (P.cellsOf E)).bind (DataW.trod enc P w 0 C D z E) with
     |none=>rw[hm] at u;simp at u
     |some L=>
      have M:∃rest,d= .slice (L.map (·.1)) rest:=by
       rw[hm] at u;simp only[cM] at u;obtain⟨r,_,G⟩:=Option.map_eq_some_iff.1 u;simp only[aKq] at G;exact⟨_,G.1.symm⟩
      obtain⟨rest,rfl⟩:=M;rw[DataW.weights,h] at A;obtain⟨b,off,sp⟩:=a
      obtain⟨xs,V,rfl,X,k2,k3,k4⟩:=aFz (e:=e) (w:=w) (b:=b) (off:=off) (sp:=sp) hpos n (fun i S=>by
       obtain⟨y,aa,I⟩:=Mz hm i (by simpa using S);rw[hE] at I;obtain⟨K,q1,q2⟩:=Option.bind_eq_some_iff.1 I;obtain⟨x,hx⟩:=he H enc w C D z K y.1 y.2 q2 fun n U=>A n (aI8 _ (aNv _ (xB (aK3.2 ⟨_,aa,rfl⟩) U)))
       exact⟨x,K,q1,hx⟩)
      have N:L.length=n+1:=by rw[Vl hm,aOt]
      have B:=A _ aJ8;rw[aLc,N] at B;have O:=aCi hby;have ab:n+1<=reachBytes:=by
       refine aLi ?_ B
       calc n+1<=(n+1+rest.length)*1:=by omega
        _<=_:=Nat.mul_le_mul_left _ O
      have ac:=reachBytes_lt;refine⟨xs,some ⟨b,off,none⟩,F,by rw[X],⟨by omega,by omega⟩,.inr ⟨b,off,V,rfl,k2,fun h=>h,k3,k4⟩⟩
   ·cases u
def RdV{α:Type}(P:Program)(T:TypeId)(e:Enc α):Prop:=∀(H:Type) (enc:TypeId×Value->H) (w w0:World) (v:Value) (d:DataW H) (ps:List MemPlace),
 Value.okWide P w0 .any 0 T v->DataW.Trod enc P w 0 (fun _=>true) true T v d ps->(∀n∈d.weights P T,n<=reachBytes)->∃x,e.val x (fun _=>False) w v
theorem Nb{α:Type}{P:Program}{T:TypeId}{e:Enc α}(ha:e.agg=false)(hs:∀w v,Value.okWide P w .any 0 T v->v.cells= #[v])(he:RdE P T e):RdV P T e:=by
 intro H enc w h v d A u ⟨fuel,ht⟩ hz;rw[hs h v u] at ht;obtain⟨x,z⟩:=he H enc w _ _ fuel _ _ _ ht hz;exact⟨x,_,z,by simp[Enc.pk,ha]⟩
theorem RdV.int{P:Program}{T:TypeId}{k:IntKind}(h:P.underlying T=some (.int k)):RdV P T (Enc.int k):=
 Nb rfl (fun w v u=>by obtain⟨n,rfl⟩:=okWide_int h u;rfl) (RdE.int h)
theorem RdV.sl{α:Type}{P:Program}{T E:TypeId}{e:Enc α}(h:P.underlying T=some (.slice E))(hE:P.cellsOf E=e.n)(hpos:Nat.blt 0 e.n=true)(hby:Nat.blt 0 (P.bytesOf E)=true)(he:RdE P E e):RdV P T (Enc.sl e):=
 Nb rfl (fun w v u=>by obtain⟨a,l,c,rfl⟩:=okWide_slice h u;rfl) (RdE.sl h hE hpos hby he)
end Go.Sw
