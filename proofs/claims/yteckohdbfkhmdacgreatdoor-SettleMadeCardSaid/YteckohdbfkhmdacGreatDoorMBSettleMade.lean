/- The library over the model: how values lie, what is ours in memory, rules for operations, calls, loops. Conditions: none. -/
import Derived.Test.YteckohdbfkhmdacGreatDoorMASettleMade
import Derived.Laws.Externs
set_option linter.unusedVariables false
set_option linter.unusedSimpArgs false
namespace Go.Sw
open Go Go.RowKit
def dm(P:aAe)(gf:aAf)(cap:List Slot)(items:List (List Slot)):Prop:=
 ∀(S:Nat->Prop) (w:aAa) (vs:List aAd) (ρ:Nat->LV) (l:Nat) (J:Nat->aAa->Prop) (Jx:aAa->Prop),
  (∀k,S k->k<w.heap.size)->aX ρ S w cap vs->J 0 w->
  (∀k W,J k W->w.heap.size<=W.heap.size/\∀b,b<w.heap.size->¬S b->W.heap[b]? =w.heap[b]?)->
  (∀k W h,J k W->Below W.heap.size W h->J k h)->(∀W h,Jx W->Below W.heap.size W h->Jx h)->
  (∀k item W0 W us,items[k]? =some item->J k W0->Below W0.heap.size W0 W->aX ρ (fun j=>S j\/(w.heap.size<=j/\j<W0.heap.size)) W item us->∃fn tmps assign body,(Instr.yield l us.toArray).run P W= .ok (.round l fn tmps assign body) W/\
   RoundIn Fence.wide 0 P l fn tmps assign body W fun e h=>(e= .returned (.bool true)/\J (k+1) h)\/(e= .returned (.bool false)/\Jx h))->
  Calls P gf (.func (.yield l) #[] #[]::vs).toArray w fun e u=>(∃v,e= .returned v)/\(J items.length u\/Jx u)
def er{ι α δ:Type}(step:ι->α->Option (Step α δ)):List ι->α->Option (Ex α δ)
 | [],y=>some (.XT y)
 |i::is,y=>match step i y with
  |none=>none
  |some (.next h)=>er step is h
  |some (.done z)=>some (.ret z)
def HO:List Tmp->List Slot->List (Nat×Slot)->List (Nat×Slot)
 |t::ts,s::ss,g=>HO ts ss ((t,s)::g)
 |_,_,g=>g
def Pu(A:Nat->Nat):List (Nat×XB)->List (Nat×XB)
 | []=>[]
 | (i,h)::d=>(i,match h with | .box T l _=> .box T l (some (A i)) | .arr T e xs=> .arr T e xs | .mp e f m=> .mp e f m | .dp D x u=> .dp D x u)::Pu A d
theorem Bl{A:Nat->Nat}:∀{d:List (Nat×XB)} {i:Nat} {en:XB},aY (Pu A d) i=some en->∃j6,aY d i=some j6/\((∃T l pb,j6= .box T l pb/\en= .box T l (some (A i)))\/en=j6)
 | [],i,en,h=>by simp[Pu,aY] at h
 | (j,e)::d,i,en,h=>by
  simp only[Pu] at h;rw[cN] at h;rw[cN];split at h
  ·rename_i u;subst u;cases h;rw[YC rfl];refine⟨_,rfl,?_⟩;cases e with
   |box T l pb=>exact .inl ⟨T,l,pb,rfl,rfl⟩
   |arr T e xs=>exact .inr rfl
   |mp e f m=>exact .inr rfl
   |dp D x z=>exact .inr rfl
  ·rename_i u;rw[XV u];exact Bl h
theorem Uz{A:Nat->Nat}:∀{d:List (Nat×XB)} {i:Nat} {en:XB},aY d i=some en->∃en',aY (Pu A d) i=some en'
 | [],i,en,h=>by simp[aY] at h
 | (j,e)::d,i,en,h=>by
  simp only[Pu];rw[cN] at h ⊢;split
  ·exact⟨_,rfl⟩
  ·rename_i u;rw[XV u] at h;exact Uz h
inductive E8 (A:Nat->Nat) (d:List (Nat×XB)):List Nat->Prop
 |nil:E8 A d []
 |cons {i:Nat} {T:aAb} {l:List Slot} {is:List Nat}:aY d i=some (.box T l (some (A i)))->E8 A d is->E8 A d (i::is)
theorem E8.spec{A:Nat->Nat}{d:List (Nat×XB)}{is:List Nat}(h:E8 A d is):∀i∈is,∃T l,aY d i=some (.box T l (some (A i))):=by
 induction h with
 |nil=>intro i h;simp at h
 |cons z _ B=>
  intro i u;rcases B1.1 u with rfl | u
  ·exact⟨_,_,z⟩
  ·exact B i u
def AQ(F:YP)(O:AS):aAl->aAm->aAa->Prop
 | .normal,a,w=>St F O a w
 |_,_,_=>False
def RB{α δ:Type}(F:YP)(ds:α->List (Nat×XB))(dx:δ->List (Nat×XB)):Step α δ->aAl->aAm->aAa->Prop
 | .next y,.normal,a,w=>St F ⟨[],ds y⟩ a w
 | .done z,.ret,a,w=>St F ⟨[],dx z⟩ a w
 |_,_,_,_=>False
theorem Core.pin{F:YP}{d:List (Nat×XB)}{ρ:Nat->LV}{w:aAa}{A:Nat->Nat}(hc:Core F d ρ w)(hA:∀i b,(ρ i).v= .pointer (some ⟨b,0,none⟩)->A i=b):Core F (Pu A d) ρ w/\Un F.S0 ρ (Pu A d)=Un F.S0 ρ d:=by
 have G:Un F.S0 ρ (Pu A d)=Un F.S0 ρ d:=by
  funext k;refine propext ⟨fun h=>?_,fun h=>?_⟩
  ·rcases h with h |⟨i,C,u,B⟩
   ·exact .inl h
   ·obtain⟨z,D,_⟩:=Bl u;exact .inr ⟨i,z,D,B⟩
  ·rcases h with h |⟨i,C,u,B⟩
   ·exact .inl h
   ·obtain⟨H,D⟩:=Uz (A:=A) u;exact .inr ⟨i,H,D,B⟩
 refine⟨⟨hc.low,hc.size,hc.frame,hc.os,hc.tape,hc.output,fun i C h=>?_,fun i C b h=>?_,fun i j C H b I K=>?_,fun i C b h=>?_⟩,G⟩
 ·obtain⟨z,u,B⟩:=Bl h;rw[G];have:=hc.own i z u;rcases B with⟨T,l,P,rfl,rfl⟩| rfl
  ·obtain⟨⟨b,L,E,M,N⟩,_⟩:=this;exact⟨⟨b,L,E,M,N⟩,fun c hc=>by cases hc;rw[E,hA i b E]⟩
  ·exact this
 ·obtain⟨z,u,_⟩:=Bl h;exact hc.fresh i z b u
 ·obtain⟨z,u,_⟩:=Bl I;obtain⟨O,B,_⟩:=Bl K;exact hc.inj i j z O b u B
 ·obtain⟨z,u,_⟩:=Bl h;exact hc.apart i z b u
theorem Core.zi{F F':YP}{d:List (Nat×XB)}{ρ:Nat->LV}{w w':aAa}{l:Nat}(hc:Core F d ρ w)(hl:F.S0 l)(hS:F'.S0=F.S0)(hz:w'.heap.size=w.heap.size)(ho:∀k,k≠l->w'.heap[k]? =w.heap[k]?)
  (B4:F'.w0.heap.size<=w'.heap.size) (r8:∀k,F.S0 k->k<F'.w0.heap.size) (ib:∀k,k<F'.w0.heap.size->¬F'.R k->w'.heap[k]? =F'.w0.heap[k]?) (hos:w'.os=F'.w0.os) (htp:w'.tape=F'.w0.tape) (I4:w'.output=F'.w0.output)
  (hR:∀i en b,aY d i=some en->qX (ρ i) b->F'.w0.heap.size<=b\/F'.R b):Core F' d ρ w'/\Ext (Un F.S0 ρ d) (Un F'.S0 ρ d) w w':=by
 have z:Ext (Un F.S0 ρ d) (Un F'.S0 ρ d) w w':=⟨by rw[hz];exact ZY _,fun k _ A=>⟨ho k fun e=>A (.inl (e ▸ hl)),by rw[hS];exact A⟩⟩;have B:∀i en b,aY d i=some en->qX (ρ i) b->b≠l:=fun i en b h u e=>hc.apart i en b h u (e ▸ hl);exact⟨⟨by rw[hS];exact r8,B4,ib,hos,htp,I4,fun i en h=>XB.WY (hc.own i en h) z (fun _ _=>rfl) (fun b u=>ho b (B i en b h u)),fun i en b h u=>⟨hR i en b h u,by rw[hz];exact(hc.fresh i en b h u).2⟩,hc.inj,fun i en b h u=>by rw[hS];exact hc.apart i en b h u⟩,z⟩
theorem Yr(ps:List (Tmp×aAd))(t:Array aAd):(ps.foldl (fun tmps (t,a)=>tmps.setIfInBounds t a) t).size=t.size:=by
 induction ps generalizing t with
 |nil=>rfl
 |cons x ps h=>simp only[Z0];rw[h];simp
theorem BK{ρ:Nat->LV}{S:Nat->Prop}{w:aAa}:∀(ps:List Tmp) (ss:List Slot) (us:List aAd) (g:List (Nat×Slot)) (tm:Array aAd),(∀t s,lk g t=some s->s.ok ρ S w (tm.getD t undef))->aX ρ S w ss us->ps.length=ss.length->(∀t∈ps,t<tm.size)->
  ∀t s,lk (HO ps ss g) t=some s->s.ok ρ S w (((ps.zip us).foldl (fun tmps (t,a)=>tmps.setIfInBounds t a) tm).getD t undef)
 | [],[],us,g,tm,C,z,_,_=>by simp only[aX] at z;subst z;exact C
 |p::ps,H::ss,us,g,tm,C,z,A,D=>by
  simp only[aX] at z;obtain⟨u,us,rfl,F,G⟩:=z;simp only[HO,List.zip_cons_cons,Z0];refine BK ps ss us _ _ (fun t s h=>?_) G (by simpa using A) (fun t h=>by simpa using D t (cz _ h));have E:=D p dg;rw[mN] at h;rw[sf,aDj];split at h
  ·rename_i B;subst B;cases h;simp[E];exact F
  ·rename_i B;rw[XV B,<-sf];exact C t s h
 | [],_::_,_,_,_,_,_,A,_=>by simp at A
 |_::_,[],_,_,_,_,_,A,_=>by simp at A
theorem Sq{F0 F:YP}{O:AS}{cs:List aAj}{Q:aAl->aAm->aAa->Prop}{gt:Tmp}{ps:Array Tmp}{assign body:aAj}{α ι δ:Type}{gf:aAf}{cap:List Slot}{step:ι->α->Option (Step α δ)}{its:List ι}{x0:α}{o:Ex α δ}(enc:ι->List Slot)
  {g:List (Nat×Slot)} {ds0:List (Nat×XB)} (ds:(Nat->Nat)->α->List (Nat×XB)) (dx:(Nat->Nat)->δ->List (Nat×XB)) (σ1:(Nat->Nat)->ι->α->AS) {L:List Nat}
  (hF:al F0 F) (hrd:F.rd=none) (hm:er step its x0=some o) (h0:Sub F O ⟨g,ds0⟩) (ki:∀A,Pu A ds0=ds A x0) (hg:lk g gt=some (.o7 gf cap)) (hit:dm F.P gf cap (its.map enc))
  (ZE:∀args w,(callFunc gf args).run F.P w= .ok (.enter gf args) w) (hps:∀it,(enc it).length=ps.size) (hpN:ps.toList.all (fun t=>Nat.blt t F.N)=true) (hel:∀it,eC (enc it)=[])
  (hL:(g.flatMap fun q=>q.2.ZR)=L) (ig:∀A y,E8 A (ds A y) L) (hbz:∀A z,E8 A (dx A z) L)
  (aFo:∀A S w R l it y,W ⟨F.P,F.N,S,w,R,some l,[]⟩ [assign] ⟨HO ps.toList (enc it) g,ds A y⟩ (AQ ⟨F.P,F.N,S,w,R,some l,[]⟩ (σ1 A it y)))
  (aSy:∀A S w R l it y r,step it y=some r->W ⟨F.P,F.N,S,w,R,some l,[]⟩ [body] (σ1 A it y) (RB ⟨F.P,F.N,S,w,R,some l,[]⟩ (ds A) (dx A) r))
  (hk:∀A y,o= .XT y->∀S w R df,al F0 ⟨F.P,F.N,S,w,R,none,df⟩->W ⟨F.P,F.N,S,w,R,none,df⟩ cs ⟨g,ds A y⟩ Q)
  (hx:∀A z,o= .ret z->∀S w R df,al F0 ⟨F.P,F.N,S,w,R,none,df⟩->XQ ⟨F.P,F.N,S,w,R,none,df⟩ ⟨g,dx A z⟩ Q .ret):
  W F (.rangeFunc (.tmp gt) ps assign body::cs) O Q:=by
 intro a w ZM;obtain⟨⟨ρ0,G,mm⟩,hz,j4⟩:=h0 a w ZM;have re:F.fe=Fence.wide:=by show ({ Fence.wide with round:=F.rd }:Fence)=_;rw[hrd];rfl
 let A:Nat->Nat:=fun i=>B0 (ρ0 i).v
 obtain⟨G,bA⟩:=G.pin (A:=A) (fun i b h=>by show B0 (ρ0 i).v=b;rw[h];rfl);replace mm:∀t s,lk g t=some s->s.ok ρ0 (Un F.S0 ρ0 (ds A x0)) w (a.tmps.getD t undef):=by intro t s M;rw[<-ki,bA];exact mm t s M
 rw[ki] at G;clear bA;have a6:=mm gt _ hg;simp only[Slot.ok] at a6;obtain⟨vs,XO,n5⟩:=a6;obtain⟨D,hD⟩:∃D,D=w.heap.size:=⟨_,rfl⟩;refine wpIn_rangeFunc fun fn _=>?_;obtain⟨U,V⟩:∃U:LoopState->Option aAj->Loop,U=fun st pe=>{ state:=st,pending:=pe,fn,tmps:=a.tmps,params:=ps,assign,body,defers:=D }:=⟨_,rfl⟩;obtain⟨W1,ae⟩:∃W1,(w.alloc (.deferred (some []))).alloc (.loop (U .ready none))=W1:=⟨_,rfl⟩;have O4:Below w.heap.size w W1:=by rw[<-ae];exact((Below.refl _ w).alloc (ZY _) _).alloc (by simp) _
 have va:W1.heap.size=D+2:=by rw[<-ae,hD];simp
 have a7:W1.heap[D+1]? =some (.loop (U .ready none)):=by
  rw[<-ae,hD];have:=World.alloc_heap_new (w.alloc (.deferred (some []))) (.loop (U .ready none));rwa [World.size_alloc] at this
 have bD:W1.heap[D]? =some (.deferred (some [])):=by
  rw[<-ae,hD];exact(Below.heap_alloc _ _ _ (by simp)).trans (World.alloc_heap_new w _)
 let S1:Nat->Prop:=fun k=>F.S0 k\/k=D\/k=D+1
 let X:Nat->Prop:=mV ρ0 (ds A x0)
 let FL:YP:=⟨F.P,F.N,S1,W1,X,none,[]⟩
 let FX:YP:=⟨F.P,F.N,S1,W1,fun k=>X k\/k=D+1,none,[]⟩
 have aa:∀k,S1 k->k<W1.heap.size:=by
  rintro k (h | rfl | rfl)
  ·have:=G.low k h;have:=G.size;omega
  ·omega
  ·omega
 have xb:Ext (Un F.S0 ρ0 (ds A x0)) (Un S1 ρ0 (ds A x0)) w W1:=⟨O4.size,fun k hk I=>⟨O4.block k hk,by
  rintro ((h | rfl | rfl) | h)
  ·exact I (.inl h)
  ·omega
  ·omega
  ·exact I (.inr h)⟩⟩
 have a8:Core FL (ds A x0) ρ0 W1:=by
  refine⟨aa,ZY _,fun _ _ _=>rfl,rfl,rfl,rfl,fun i B h=>XB.WY (G.own i B h) xb (fun _ _=>rfl) (fun b H=>O4.block b (G.fresh i B b h H).2),fun i B b h H=>⟨.inr ⟨i,B,h,H⟩,X0 (G.fresh i B b h H).2 O4.size⟩,G.inj,fun i B b h H=>?_⟩;rintro (h' | rfl | rfl)
  ·exact G.apart i B b h H h'
  ·have:=(G.fresh i B _ h H).2;omega
  ·have:=(G.fresh i B _ h H).2;omega
 have a9:∀{d:List (Nat×XB)} {ρ:Nat->LV} {W:aAa},Core FL d ρ W->W.heap[D+1]? =some (.loop (U .ready none))/\W.heap[D]? =some (.deferred (some [])):=by
  intro d ρ W u;have ba:∀k,k=D\/k=D+1->¬X k:=by
   rintro k hk ⟨i,B,E,C⟩;have:=(G.fresh i B k E C).2;omega
  exact⟨(u.frame (D+1) (by show D+1<W1.heap.size;omega) (ba _ (.inr rfl))).trans a7,(u.frame D (by show D<W1.heap.size;omega) (ba _ (.inl rfl))).trans bD⟩
 have L7:∀{d:List (Nat×XB)} {ρ:Nat->LV} {W:aAa} {FF:YP},Core FF d ρ W->E8 A d L->∀t s,lk g t=some s->mU ρ0 ρ s.ZR:=by
  intro d ρ W FF u H t s M i hi;have bb:i∈L:=by rw[<-hL];exact aD7.2 ⟨_,Mn M,hi⟩
  obtain⟨T,l,E⟩:=H.spec i bb;obtain⟨T',l',C⟩:=(ig A x0).spec i bb;rw[(u.own i _ E).2 _ rfl,(G.own i _ C).2 _ rfl]
 have bc:∀{d:List (Nat×XB)} {ρ:Nat->LV} {W:aAa},Core FL d ρ W->Ext (Un S1 ρ0 (ds A x0)) (Un S1 ρ d) W1 W:=by
  intro d ρ W u;refine⟨u.size,fun k hk I=>⟨u.frame k hk (fun h=>I (.inr h)),?_⟩⟩;rintro (h |⟨i,B,E,C⟩)
  ·exact I (.inl h)
  ·rcases (u.fresh i B k E C).1 with h | h
   ·have:W1.heap.size<=k:=h;omega
   ·exact I (.inr h)
 have bE:∀{d:List (Nat×XB)} {ρ:Nat->LV} {W:aAa},Core FX d ρ W->Ext (Un S1 ρ0 (ds A x0)) (Un S1 ρ d) W1 W:=by
  intro d ρ W u;have X8:∀k,¬Un S1 ρ0 (ds A x0) k->¬(X k\/k=D+1):=by
   rintro k I (h | rfl)
   ·exact I (.inr h)
   ·exact I (.inl (.inr (.inr rfl)))
  refine⟨u.size,fun k hk I=>⟨u.frame k hk (X8 k I),?_⟩⟩;rintro (h |⟨i,B,E,C⟩)
  ·exact I (.inl h)
  ·rcases (u.fresh i B k E C).1 with h | h
   ·have:W1.heap.size<=k:=h;omega
   ·exact X8 k I h
 have be:∀{d:List (Nat×XB)} {ρ:Nat->LV} {W W':aAa} {FF:YP},(FF=FL\/FF=FX)->Core FF d ρ W->W'.heap.size=W.heap.size->(∀k,k≠D+1->W'.heap[k]? =W.heap[k]?)->W'.os=W.os->W'.tape=W.tape->W'.output=W.output->W.heap[D]? =some (.deferred (some []))->
   al F0 ⟨F.P,F.N,S1,W',mV ρ d,none,{ target:= .collected D,args:= #[] }::F.df⟩/\Core ⟨F.P,F.N,S1,W',mV ρ d,none,{ target:= .collected D,args:= #[] }::F.df⟩ d ρ W'/\Ext (Un S1 ρ d) (Un S1 ρ d) W W':=by
  intro d ρ W W' FF hFF u hzz gw hos htp I4 hKD;have ab:FF.S0=S1:=by rcases hFF with rfl | rfl<;>rfl
  have ac:FF.w0=W1:=by rcases hFF with rfl | rfl<;>rfl
  have bf:∀k,FF.R k->X k\/k=D+1:=by rcases hFF with rfl | rfl;exact fun k h=> .inl h;exact fun k h=>h
  have fp:=u.size;rw[ac] at fp;have ib:∀k,k<W1.heap.size->¬X k->k≠D+1->W.heap[k]? =W1.heap[k]? :=fun k E C K=>by
   have:=u.frame k (by rw[ac];exact E) (fun h=>(bf k h).elim C K);rwa [ac] at this
  have vt:∀k,F.S0 k\/k=D\/k=D+1->¬mV ρ d k:=by
   rintro k hk ⟨i,B,E,C⟩;have:=u.apart i B k E C;rw[ab] at this;exact this hk
  have bg:∀k,mV ρ d k->k<W1.heap.size->X k:=by
   rintro k ⟨i,B,E,C⟩ hk;rcases (u.fresh i B k E C).1 with h | h
   ·rw[ac] at h;omega
   ·rcases bf k h with h | rfl
    ·exact h
    ·exact absurd ⟨i,B,E,C⟩ (vt _ (.inr (.inr rfl)))
  have bh:∀k,X k->F0.w0.heap.size<=k\/F0.R k:=by
   rintro k ⟨i,B,E,C⟩;rcases (G.fresh i B k E C).1 with h | h
   ·exact .inl (ik hF.size h)
   ·exact hF.fresh k h
  have aj:W'.os=F.w0.os/\W'.tape=F.w0.tape/\W'.output=F.w0.output:=by
   have E:=u.os;have C:=u.tape;have K:=u.output;rw[ac] at E C K;exact⟨((hos.trans E).trans O4.os).trans G.os,((htp.trans C).trans O4.tape).trans G.tape,((I4.trans K).trans O4.output).trans G.output⟩
  have am:=u.zi (F':=⟨F.P,F.N,S1,W',mV ρ d,none,{ target:= .collected D,args:= #[] }::F.df⟩) (l:=D+1) (by rw[ab];exact .inr (.inr rfl)) ab.symm hzz gw (ZY _) (fun k h=>by rw[ab] at h;show k<W'.heap.size;have:=aa k h;omega)
   (fun _ _ _=>rfl) rfl rfl rfl (fun i B b h H=> .inr ⟨i,B,h,H⟩)
  rw[ab] at am;refine⟨⟨hF.P,fun k h=> .inl (hF.S k h),by show F0.w0.heap.size<=W'.heap.size;have:=hF.size;have:=G.size;omega,hF.low,fun k hk hr=>?_,aj.1.trans hF.os,aj.2.1.trans hF.tape,aj.2.2.trans hF.output,fun k hk=>?_,fun x hx=>?_,?_⟩,am.1,am.2⟩
  ·have bp:=hF.size;have bo:=G.size;obtain⟨E,C⟩:=hF.frame k hk hr;have ah:¬X k:=fun h=>(bh k h).elim (fun h=>by omega) hr;refine⟨?_,fun h=>ah (bg k h (by omega))⟩;show W'.heap[k]? =_;rw[gw k (by omega),ib k (by omega) ah (by omega),O4.block k (by omega),G.frame k (by omega) C,E]
  ·by_cases YI:k<W1.heap.size
   ·exact bh k (bg k hk YI)
   ·have bp:=hF.size;have bo:=G.size;exact .inl (by omega)
  ·rcases B1.1 hx with rfl | hx
   ·have bp:=hF.size;have bo:=G.size;exact⟨D,rfl,.inr (.inl rfl),vt D (.inr (.inl rfl)),by omega,by show W'.heap[D]? =_;rw[gw D (by omega)];exact hKD⟩
   ·obtain⟨r,E,C,K,h4,h5⟩:=hF.df x hx;have YI:=G.low r C;have bo:=G.size;refine⟨r,E,.inl C,vt r (.inl C),h4,?_⟩;show W'.heap[r]? =_;have ah:¬X r:=fun⟨i,B,h6,h7⟩=>G.apart i B r h6 h7 C;rw[gw r (by omega),ib r (by omega) ah (by omega),O4.block r (by omega),G.frame r YI K,h5]
  ·refine List.pairwise_cons.2 ⟨fun x hx e=>?_,hF.nd⟩;obtain⟨r,E,C,_⟩:=hF.df x hx;rw[E] at e;have e':D=r:=(by simpa using e);have:=G.low r C;have:=G.size;omega
 let J:Nat->aAa->Prop:=fun k W=>∃y ρ,er step (its.drop k) y=some o/\Core FL (ds A y) ρ W
 let Jx:aAa->Prop:=fun W=>∃z ρ,o= .ret z/\Core FX (dx A z) ρ W/\W.heap[D+1]? =some (.loop (U .done (some .ret)))/\W.heap[D]? =some (.deferred (some []))
 refine⟨D+1,[{ target:= .collected D,args:= #[] }],W1,{ target:= .fn (.func gf) vs.toArray,args:= #[.func (.yield (D+1)) #[] #[]] },W1,gf,(.func (.yield (D+1)) #[] #[]::vs).toArray,W1,?_,?_,fun _ _=>by rw[re];trivial,?_,fun h=>(by rw[re] at h;cases h),?_⟩
 ·rw[<-ae,V,hD];show (Instr.enterLoop _ _ _ _ _ F.rd).run _ _=_;rw[hrd];exact run_enterLoop_outer _ _ _ _ _
 ·have:a.eval (.tmp gt)= .func (.func gf) #[] vs.toArray:=XO;simp only[resolve,this];simp[go_sem]
 ·simp[invoke,go_sem,ZE]
 rw[re];refine CallsIn.mono (callsIn_wide.2 (hit (Un S1 ρ0 (ds A x0)) W1 vs ρ0 (D+1) J Jx ?_ (nI cap vs n5 xb (fun _ _=>rfl)) ⟨x0,ρ0,by simpa using hm,a8⟩ ?_ ?_ ?_ ?_)) ?_
 ·rintro k (h |⟨i,B,E,C⟩)
  ·exact aa k h
  ·exact(a8.fresh i B k E C).2
 ·rintro k W ⟨y,ρ,_,u⟩;exact⟨u.size,fun b H I=>u.frame b H (fun h=>I (.inr h))⟩
 ·rintro k W W' ⟨y,ρ,E,u⟩ Y6;exact⟨y,ρ,E,(u.below Y6).1⟩
 ·rintro W W' ⟨z,ρ,ad,u,P0,qz⟩ Y6;exact⟨z,ρ,ad,(u.below Y6).1,(Y6.block _ (aBn.1 P0).1).trans P0,(Y6.block _ (aBn.1 qz).1).trans qz⟩
 ·
  rintro k item W0 W us br ⟨y,ρ,qy,bB⟩ Y6 bC;have u:=(bB.below Y6).1
  have bF:Ext (fun j=>Un S1 ρ0 (ds A x0) j\/(W1.heap.size<=j/\j<W0.heap.size)) (Un S1 ρ (ds A y)) W W:=⟨ZY _,fun k _ I=>⟨rfl,by
   rintro (h |⟨i,B,E,C⟩)
   ·exact I (.inl (.inl h))
   ·obtain⟨K,h4⟩:=bB.fresh i B k E C;rcases K with K | K
    ·exact I (.inr ⟨K,h4⟩)
    ·exact I (.inl (.inr K))⟩⟩
  obtain⟨it,b6,rfl⟩:∃it,its[k]? =some it/\enc it=item:=by
   rw[oe] at br;cases hq:its[k]? with
   |none=>rw[hq] at br;cases br
   |some it=>rw[hq] at br;exact⟨it,rfl,by simpa using br⟩
  have bt:its.drop k=it::its.drop (k+1):=by
   obtain⟨YI,he⟩:=aCb.1 b6;rw[aCy YI,he]
  rw[bt] at qy;obtain⟨hl,ay⟩:=a9 u;have bG:=Hm bC;have hy:=run_yield (P:=F.P) (args:=us.toArray) hl (by rw[V];simp[bG,hps]);rw[V] at hy;refine⟨fn,_,assign,body,hy,roundIn_of_wpIn trivial ?_⟩;let F2:YP:=⟨F.P,F.N,S1,W,mV ρ (ds A y),some (D+1),[]⟩
  have bH:=u.size;have cc:W1.heap.size<=W.heap.size:=bH;have ZG:Core F2 (ds A y) ρ W:=⟨fun k h=>by have:=aa k h;show k<W.heap.size;omega,ZY _,fun _ _ _=>rfl,rfl,rfl,rfl,u.own,fun i B b h H=>⟨.inr ⟨i,B,h,H⟩,(u.fresh i B b h H).2⟩,u.inj,u.apart⟩;have ZK:mU ρ0 ρ (eC (enc it)):=fun i hi=>by rw[hel it] at hi;simp at hi
  have vm:St F2 ⟨HO ps.toList (enc it) g,ds A y⟩ { tmps:=((ps.zip us.toArray).foldl (fun tmps (t,a)=>tmps.setIfInBounds t a) a.tmps),defers:=[] } W:=by
   refine⟨⟨ρ,ZG,fun t s M=>?_⟩,?_,rfl⟩
   ·have bI:(ps.zip us.toArray).foldl (fun tmps (t,a)=>tmps.setIfInBounds t a) a.tmps=(ps.toList.zip us).foldl (fun tmps (t,a)=>tmps.setIfInBounds t a) a.tmps:=by
     rw[<-aEj];simp
    rw[bI];refine BK ps.toList (enc it) us g a.tmps (fun t s M=>?_) (nI _ us bC bF ZK) (by simpa using (hps it).symm) (fun t M=>?_) t s M
    ·exact Slot.WY s _ (Slot.WY s _ (mm t s M) xb (fun _ _=>rfl)) (bc u) (fun i hi=>L7 u (ig A y) t s M i hi)
    ·rw[hz];have:=y8.1 hpN t M;exact E7 this
   ·show ((ps.zip us.toArray).foldl (fun tmps (t,a)=>tmps.setIfInBounds t a) a.tmps).size=F.N;rw[<-aEj];rw[Yr];exact hz
  have bJ:assign.wpIn F2.fe 0 F.P (Exit.then (run F2.fe F.P (AQ F2 (σ1 A it y)) []) (AQ F2 (σ1 A it y))) _ W:=aFo A S1 W (mV ρ (ds A y)) (D+1) it y _ _ vm;refine wpIn_mono (show assign.wpIn (Fence.wide.inRound (D+1)) 0 F.P _ _ W from bJ) ?_;have fin:∀{e:aAl} {a1:aAm} {w1:aAa},St F2 (σ1 A it y) a1 w1->∃w2,(Instr.beginRound (D+1)).run F.P w1= .ok () w2/\body.wpIn (Fence.wide.inRound (D+1)) 0 F.P (roundPost F.P (D+1) fun e W'=>(e= .returned (.bool true)/\J (k+1) W')\/(e= .returned (.bool false)/\Jx W')) a1 w2:=by
   intro _ a1 w1 mj;obtain⟨⟨ρ1,m9,bp⟩,b7,b8⟩:=mj;have bi:∀k,S1 k->¬mV ρ (ds A y) k:=(by rintro k hk ⟨i,B,E,C⟩;exact u.apart i B k E C hk);have X9:w1.heap[D+1]? =some (.loop (U .ready none)):=(m9.frame (D+1) (by show D+1<W.heap.size;have:W1.heap.size<=W.heap.size:=u.size;omega) (bi _ (.inr (.inr rfl)))).trans hl;have bK:w1.heap[D]? =some (.deferred (some [])):=(m9.frame D (by show D<W.heap.size;have:W1.heap.size<=W.heap.size:=u.size;omega) (bi _ (.inr (.inl rfl)))).trans ay;have bL:=(aBn.1 X9).1;have bj:=run_beginRound (P:=F.P) X9 (by rw[V]);obtain⟨w2,af⟩:∃w2,w1.putObj (D+1) (.loop { U .ready none with state:= .busy })=w2:=⟨_,rfl⟩;rw[af] at bj;have J6:w2.heap.size=w1.heap.size:=(by rw[<-af];simp);have an:∀k,k≠D+1->w2.heap[k]? =w1.heap[k]? :=fun k h=>by rw[<-af];exact World.putObj_heap_other h
   have P0:w2.heap[D+1]? =some (.loop { U .ready none with state:= .busy }):=(by rw[<-af];exact World.putObj_heap_same bL);let F3:YP:=⟨F.P,F.N,S1,w2,mV ρ1 (σ1 A it y).d,some (D+1),[]⟩
   have cf:W.heap.size<=w1.heap.size:=m9.size;have ch:W1.heap.size<=W.heap.size:=u.size;obtain⟨u9,b9⟩:=m9.zi (F':=F3) (l:=D+1) (.inr (.inr rfl)) rfl J6 an (ZY _) (fun k h=>by have:=aa k h;show k<w2.heap.size;omega) (fun _ _ _=>rfl) rfl rfl rfl (fun i B b h H=> .inr ⟨i,B,h,H⟩);refine⟨w2,bj,?_⟩;have bk:∀{d:List (Nat×XB)} {ρ3:Nat->LV} {w3 w4:aAa} {o4:Obj},Core F3 d ρ3 w3->w4=w3.putObj (D+1) o4->(o4= .loop (U .ready none)->Core FL d ρ3 w4)/\Core FX d ρ3 w4/\w3.heap[D+1]? =some (.loop { U .ready none with state:= .busy })/\w4.heap[D+1]? =some o4/\w4.heap[D]? =some (.deferred (some [])):=by
    intro d ρ3 w3 w4 o4 tp hw4;have bl:∀k,S1 k->¬mV ρ1 (σ1 A it y).d k:=(by rintro k hk ⟨i,B,E,C⟩;exact m9.apart i B k E C hk);have ci:w2.heap.size<=w3.heap.size:=tp.size;have bm:w3.heap[D+1]? =some (.loop { U .ready none with state:= .busy }):=(tp.frame (D+1) (by show D+1<w2.heap.size;omega) (bl _ (.inr (.inr rfl)))).trans P0;have b1:w3.heap[D]? =some (.deferred (some [])):=(tp.frame D (by show D<w2.heap.size;omega) (bl _ (.inr (.inl rfl)))).trans ((an D (by omega)).trans bK);have ux:w4.heap.size=w3.heap.size:=(by rw[hw4];simp);have ai:∀k,k≠D+1->w4.heap[k]? =w3.heap[k]? :=fun k h=>by rw[hw4];exact World.putObj_heap_other h
    have bn:w4.heap[D+1]? =some o4:=(by rw[hw4];exact World.putObj_heap_same (aBn.1 bm).1);have bq:∀k,k<W1.heap.size->mV ρ1 (σ1 A it y).d k->X k:=by
     rintro k hk ⟨i,B,E,C⟩;rcases (m9.fresh i B k E C).1 with h |⟨i',ca,K,h4⟩
     ·have:W.heap.size<=k:=h;omega
     ·rcases (u.fresh i' ca k K h4).1 with h | h
      ·have:W1.heap.size<=k:=h;omega
      ·exact h
    have bs:∀k,k<W1.heap.size->¬X k->k≠D+1->w4.heap[k]? =W1.heap[k]? :=by
     intro k hk tf j5;rw[ai k j5,tp.frame k (by show k<w2.heap.size;omega) (fun h=>tf (bq k hk h))];show w2.heap[k]? =_;rw[an k j5,m9.frame k (by show k<W.heap.size;omega) (fun h=>?_)]
     ·exact u.frame k hk tf
     ·obtain⟨i,B,E,C⟩:=h;rcases (u.fresh i B k E C).1 with h | h
      ·have:W1.heap.size<=k:=h;omega
      ·exact tf h
    have ap:w4.os=w3.os/\w4.tape=w3.tape/\w4.output=w3.output:=(by rw[hw4];exact⟨rfl,rfl,rfl⟩);have au:w2.os=w1.os/\w2.tape=w1.tape/\w2.output=w1.output:=(by rw[<-af];exact⟨rfl,rfl,rfl⟩);have bu:w4.os=W1.os:=ap.1.trans (tp.os.trans (au.1.trans (m9.os.trans u.os)));have bv:w4.tape=W1.tape:=ap.2.1.trans (tp.tape.trans (au.2.1.trans (m9.tape.trans u.tape)));have bw:w4.output=W1.output:=ap.2.2.trans (tp.output.trans (au.2.2.trans (m9.output.trans u.output)));have bx:∀i B b,aY d i=some B->qX (ρ3 i) b->W1.heap.size<=b\/X b:=by
     intro i B b h H;by_cases YI:b<W1.heap.size
     ·rcases (tp.fresh i B b h H).1 with h' | h'
      ·have:w2.heap.size<=b:=h';omega
      ·exact .inr (bq b YI h')
     ·exact .inl (by omega)
    have r8:∀k,S1 k->k<W1.heap.size:=aa;refine⟨fun b5=>?_,?_,bm,bn,by rw[ai D (by omega)];exact b1⟩
    ·exact(tp.zi (F':=FL) (l:=D+1) (.inr (.inr rfl)) rfl ux ai (by show W1.heap.size<=w4.heap.size;omega) r8 (fun k hk tf=>by
      by_cases bz:k=D+1
      ·subst bz;exact(bn.trans (by rw[b5])).trans a7.symm
      ·exact bs k hk tf bz) bu bv bw bx).1
    ·exact(tp.zi (F':=FX) (l:=D+1) (.inr (.inr rfl)) rfl ux ai (by show W1.heap.size<=w4.heap.size;omega) r8 (fun k hk tf=>bs k hk (fun h=>tf (.inl h)) (fun h=>tf (.inr h))) bu bv bw (fun i B b h H=>(bx i B b h H).imp (fun h=>h) .inl)).1
   have b2:St F3 (σ1 A it y) a1 w2:=⟨⟨ρ1,u9,fun t s M=>Slot.WY s _ (bp t s M) b9 (fun _ _=>rfl)⟩,b7,b8⟩;cases hsr:step it y with
   |none=>simp only[er,hsr] at qy;cases qy
   |some r=>
    have b3:body.wpIn F3.fe 0 F.P (Exit.then (run F3.fe F.P (RB F3 (ds A) (dx A) r) []) (RB F3 (ds A) (dx A) r)) a1 w2:=aSy A S1 w2 _ (D+1) it y r hsr _ _ b2;refine wpIn_mono (show body.wpIn (Fence.wide.inRound (D+1)) 0 F.P _ a1 w2 from b3) ?_;intro e a3 w3 hq;simp only[er,hsr] at qy;cases r with
    |next y'=>
     cases e<;>simp only[RB,Exit.then,run] at hq;obtain⟨⟨ρ3,a0,_⟩,_⟩:=hq;obtain⟨E,C,K,h4,h5⟩:=bk (o4:= .loop (U .ready none)) a0 rfl;have L6:=run_endRound (P:=F.P) none K;refine⟨_,_,L6,.inl ⟨rfl,y',ρ3,?_,?_⟩⟩
     ·exact qy
     ·rw[V] at E ⊢;exact E rfl
    |done z=>
     have ad:o= .ret z:=(by simpa using qy.symm);cases e<;>simp only[RB,Exit.then,run] at hq;obtain⟨⟨ρ3,a0,_⟩,_⟩:=hq;obtain⟨_,C,K,h4,h5⟩:=bk (o4:= .loop (U .done (some .ret))) a0 rfl;have L6:=run_endRound (P:=F.P) (some .ret) K;refine⟨_,_,L6,.inr ⟨rfl,z,ρ3,ad,?_,?_,?_⟩⟩
     ·rw[V] at C ⊢;exact C
     ·rw[V] at h4 ⊢;exact h4
     ·rw[V] at h5 ⊢;exact h5
  intro e a1 w1 hq;cases e<;>simp only[AQ,Exit.then,run] at hq ⊢<;>first | exact fin (e:= .normal) hq | exact hq
 ·
  rintro e W2 ⟨⟨v,rfl⟩,⟨y,ρ,E,u⟩|⟨z,ρ,ad,u,P0,cb⟩⟩
  ·obtain⟨hl,ay⟩:=a9 u;have b4:o= .XT y:=by
    have C:its.drop (List.map enc its).length=[]:=(by simp);rw[C] at E;simpa[er] using E.symm
   refine⟨none,_,(by have:=run_endLoop (P:=F.P) hl (by rw[V];simp);rw[V] at this;exact this),?_⟩;obtain⟨W3,rm⟩:∃W3,W2.putObj (D+1) (.loop { U .ready none with state:= .exhausted })=W3:=⟨_,rfl⟩;have R2:∀k,k≠D+1->W3.heap[k]? =W2.heap[k]? :=fun k h=>by rw[<-rm];exact World.putObj_heap_other h
   obtain⟨a2,a4,a5⟩:=be (W':=W3) (.inl rfl) u (by rw[<-rm];simp) R2 (by rw[<-rm];rfl) (by rw[<-rm];rfl) (by rw[<-rm];rfl) ay;have mw:=hk A y b4 S1 W3 (mV ρ (ds A y)) _ a2 { a with defers:=[{ target:= .collected D,args:= #[] }]++a.defers } W3 ⟨⟨ρ,a4,fun t s M=>?_⟩,hz,by show _++a.defers=_;rw[j4];rfl⟩
   ·have av:W2.putObj (D+1) (.loop { state:= .exhausted,pending:=none,fn,tmps:=a.tmps,params:=ps,assign,body,defers:=D })=W3:=(by rw[<-rm,V]);rw[av];simp only[Exit.then];exact mw
   ·exact Slot.WY s _ (Slot.WY s _ (Slot.WY s _ (mm t s M) xb (fun _ _=>rfl)) (bc u) (fun i hi=>L7 u (ig A y) t s M i hi)) a5 (fun _ _=>rfl)
  ·refine⟨some .ret,_,(by have:=run_endLoop (P:=F.P) P0 (by rw[V];simp);rw[V] at this;exact this),?_⟩;obtain⟨W3,rm⟩:∃W3,W2.putObj (D+1) (.loop { U .done (some .ret) with state:= .exhausted })=W3:=⟨_,rfl⟩;have R2:∀k,k≠D+1->W3.heap[k]? =W2.heap[k]? :=fun k h=>by rw[<-rm];exact World.putObj_heap_other h
   obtain⟨a2,a4,a5⟩:=be (W':=W3) (.inr rfl) u (by rw[<-rm];simp) R2 (by rw[<-rm];rfl) (by rw[<-rm];rfl) (by rw[<-rm];rfl) cb;have mw:=hx A z ad S1 W3 (mV ρ (dx A z)) _ a2 { a with defers:=[{ target:= .collected D,args:= #[] }]++a.defers } W3 ⟨⟨ρ,a4,fun t s M=>?_⟩,hz,by show _++a.defers=_;rw[j4];rfl⟩
   ·have av:W2.putObj (D+1) (.loop { state:= .exhausted,pending:=some .ret,fn,tmps:=a.tmps,params:=ps,assign,body,defers:=D })=W3:=(by rw[<-rm,V]);show (Code.ret).wpIn _ _ _ _ _ _;rw[av];exact wpIn_ret mw
   ·exact Slot.WY s _ (Slot.WY s _ (Slot.WY s _ (mm t s M) xb (fun _ _=>rfl)) (bE u) (fun i hi=>L7 u (hbz A z) t s M i hi)) a5 (fun _ _=>rfl)
def rg{ι α δ γ:Type}(step:ι->α->Option (Step α δ))(its:List ι)(x:α)(k:α->Option γ)(kx:δ->Option γ):Option γ:=match er step its x with
 |none=>none
 |some (.XT y)=>k y
 |some (.ret z)=>kx z
theorem Sr{ι α δ γ:Type}{step:ι->α->Option (Step α δ)}{its:List ι}{x:α}{k:α->Option γ}{kx:δ->Option γ}{r:γ}(h:rg step its x k kx=some r):
  ∃o,er step its x=some o/\(∀y,o= .XT y->k y=some r)/\(∀z,o= .ret z->kx z=some r):=by
 unfold rg at h;cases hr:er step its x with
 |none=>rw[hr] at h;cases h
 |some o=>
  rw[hr] at h;refine⟨o,rfl,fun y e=>?_,fun z e=>?_⟩
  ·subst e;exact h
  ·subst e;exact h
theorem QP{F:YP}{O σ1:AS}(h:Sub F O σ1):W F [] O (AQ F σ1):=fun a w u=>h a w u
theorem Ss{α δ:Type}{F:YP}{O:AS}{ds:α->List (Nat×XB)}{dx:δ->List (Nat×XB)}{y:α}(h:Sub F O ⟨[],ds y⟩):W F [] O (RB F ds dx (.next y)):=fun a w u=>h a w u
theorem HP{α δ:Type}{F:YP}{O:AS}{ds:α->List (Nat×XB)}{dx:δ->List (Nat×XB)}{z:δ}(h:Sub F O ⟨[],dx z⟩):XQ F O (RB F ds dx (.done z)) .ret:=fun a w u=>h a w u
def small{α:Type}(xs:List α):Option Unit:=if (xs.length:Int)<=4294967296 then some () else none
theorem Gp{α:Type}{xs:List α}{u:Unit}(h:small xs=some u):(xs.length:Int)<=4294967296:=by
 unfold small at h;split at h
 ·assumption
 ·cases h
def rz(n:Int):Option Unit:=if 1<=n/\n<=4294967296 then some () else none
theorem Et{n:Int}{u:Unit}(h:rz n=some u):1<=n/\n<=4294967296:=by
 unfold rz at h;split at h
 ·assumption
 ·cases h
def Wr.n7(u:aAd)(h:u.oneCell'=true):Wr Unit where
 n:=1
 agg:=false
 ok _ _ _ cs:=cs=[u]
 len h:=by rw[h];rfl
 one _:=rfl
 cell hc c hm:=by rw[hc] at hm;simp at hm;subst hm;exact h
 mono h _:=h
instance (u:aAd) (h:u.oneCell'=true):ZU (Wr.n7 u h):=⟨fun h=>h⟩
theorem Ht{u:aAd}{hu:u.oneCell'=true}{S w v}:(Wr.n7 u hu).val () S w v↔v=u:=
 ⟨fun⟨_,z,A⟩=>by have:_=[u]:=z;subst this;exact A,fun h=>⟨_,rfl,h⟩⟩
def Wr.cp{α:Type}(b off:Nat)(e:Wr α):Wr α where
 n:=1
 agg:=false
 ok x S w cs:=cs=[.pointer (some ⟨b,off,none⟩)]/\∃u,b<w.heap.size/\¬S b/\XK w b off u/\e.ok x S w u
 len h:=by rw[h.1];rfl
 one _:=rfl
 cell hc c hm:=by rw[hc.1] at hm;simp at hm;subst hm;rfl
 mono h k:=by
  obtain⟨B,u,z,A,C,D⟩:=h;exact⟨B,u,X0 z k.size,(k.M1 b z A).2,C.mono z A k,e.mono D k⟩
theorem Na{α:Type}{b off:Nat}{e:Wr α}{x:α}{S w v}:(Wr.cp b off e).val x S w v↔v= .pointer (some ⟨b,off,none⟩)/\∃ds,b<w.heap.size/\¬S b/\XK w b off ds/\e.ok x S w ds:=
 ⟨fun⟨_,u,z⟩=>by obtain⟨rfl,A⟩:=u;exact⟨z,A⟩,fun h=>⟨_,⟨rfl,h.2⟩,h.1⟩⟩
section
variable {F:YP}{O:AS}{s:Slot}{d:Option Tmp}{ty:aAb}{p:String}{af:Array Edge}{gd:Option (Nat×Bool)}{x y z:aAc}
theorem eP{u:aAd}(h:u.oneCell'=true):JO F ⟨d,.assign (.const u),ty,p,af,gd⟩ O (.v (Wr.n7 u h) ()) []:=by
 intro ρ S a w K;exact XC.value (w':=w) (v:=u) (by simp[execOp,Act.eval]) (ZC.same (by simp only[Slot.ok];exact Ht.2 rfl))
theorem mS{α:Type}{b off:Nat}{e:Wr α}{v:α}{U:aAb}(hx:dH O.g x=some (.v (Wr.cp b off e) v))(hA:∀w,(isAgg U).run F.P w= .ok e.agg w)(hS:∀w,(sizeOf U).run F.P w= .ok e.n w):
  JO F ⟨d,.load U x,ty,p,af,gd⟩ O (.v e v) []:=by
 intro ρ S a w K;have h:=K.slot x (by simp[Op.operands]) _ hx;simp only[Slot.ok] at h;obtain⟨A,u,C,D,B,z⟩:=Na.1 h;refine XC.value (w':=w) (v:=e.pk u) ?_ (ZC.same (by simp only[Slot.ok];exact⟨u,z,rfl⟩));have:=Gl (P:=F.P) B z hA hS;simp[execOp,A,Instr.loadAt,Instr.sureAddr,this]
end
def SW(S:Nat->Prop)(B:Nat)(W:aAa)(j:Nat):Prop:=S j\/(B<=j/\j<W.heap.size)
abbrev FW(P:aAe)(N:Nat)(S:Nat->Prop)(B:Nat)(W:aAa):YP:=⟨P,N,SW S B W,W,fun _=>False,none,[]⟩
structure si (P:aAe) (S:Nat->Prop) (w:aAa) (ρ:Nat->LV) (l:Nat) (J:Nat->aAa->Prop) (Jx:aAa->Prop) (items:List (List Slot)):Prop where
 low:∀k,S k->k<w.heap.size
 M1:∀k W,J k W->w.heap.size<=W.heap.size/\∀b,b<w.heap.size->¬S b->W.heap[b]? =w.heap[b]?
 below:∀k W W',J k W->Below W.heap.size W W'->J k W'
 aLj:∀W W',Jx W->Below W.heap.size W W'->Jx W'
 aIa:∀k item W0 W us,items[k]? =some item->J k W0->Below W0.heap.size W0 W->aX ρ (SW S w.heap.size W0) W item us->∃fn tmps assign body,(Instr.yield l us.toArray).run P W= .ok (.round l fn tmps assign body) W/\
   RoundIn Fence.wide 0 P l fn tmps assign body W fun e W'=>(e= .returned (.bool true)/\J (k+1) W')\/(e= .returned (.bool false)/\Jx W')
def C0(ρ:Nat->LV)(S:Nat->Prop)(w:aAa)(s:Slot):Prop:=s.ZR=[]/\∀S1 W1 S2 W2 u,s.ok ρ S1 W1 u->Ext S S2 w W2->s.ok ρ S2 W2 u
theorem C0.flat{α:Type}{e:Wr α}[ZU e]{x:α}{ρ S w}:C0 ρ S w (.v e x):=⟨rfl,fun _ _ _ _ u h _=>by
 simp only[Slot.ok] at h ⊢;obtain⟨z,A,B⟩:=h
 exact⟨z,ZU.flat A,B⟩⟩
theorem C0.cp{α:Type}{e:Wr α}{x:α}{b off:Nat}{ρ S w}(h:(Slot.v (Wr.cp b off e) x).ok ρ S w (.pointer (some ⟨b,off,none⟩))):C0 ρ S w (.v (Wr.cp b off e) x):=⟨rfl,fun _ _ _ _ u z k=>by
 simp only[Slot.ok] at h z ⊢;obtain⟨rfl,_⟩:=Na.1 z
 exact gT h k⟩
inductive D2 (ρ:Nat->LV) (S:Nat->Prop) (w:aAa):List (Nat×Slot)->Prop
 |nil:D2 ρ S w []
 |cons {t:Nat} {s:Slot} {g:List (Nat×Slot)}:C0 ρ S w s->D2 ρ S w g->D2 ρ S w ((t,s)::g)
theorem D2.spec{ρ S w}{g:List (Nat×Slot)}(h:D2 ρ S w g):∀t s,lk g t=some s->C0 ρ S w s:=by
 induction h with
 |nil=>intro t s h;simp[lk] at h
 |cons u _ z=>
  intro t s h;rw[mN] at h;split at h
  ·cases h;exact u
  ·exact z t s h
inductive ir (g:List (Nat×Slot)):List (Nat×Slot)->Prop
 |nil:ir g []
 |cons {t:Nat} {s:Slot} {g':List (Nat×Slot)}:lk g t=some s->ir g g'->ir g ((t,s)::g')
theorem ir.spec{g g':List (Nat×Slot)}(h:ir g g'):∀t s,lk g' t=some s->lk g t=some s:=by
 induction h with
 |nil=>intro t s h;simp[lk] at h
 |cons z _ A=>
  intro t s h;rw[mN] at h;split at h
  ·rename_i u;subst u;cases h;exact z
  ·exact A t s h
theorem Qt{F:YP}{O:AS}{g':List (Nat×Slot)}(h:ir O.g g'):Sub F O ⟨g',O.d⟩:=fun a w ⟨⟨ρ,u,z⟩,A,B⟩=>⟨⟨ρ,u,fun t s C=>z t s (h.spec t s C)⟩,A,B⟩
theorem kO{F:YP}{O:AS}{g':List (Nat×Slot)}(hd:O.d=[])(h:ir O.g g'):Sub F O ⟨g',[]⟩:=by rw[<-hd];exact Qt h
section
variable {P:aAe}{N:Nat}{S:Nat->Prop}{w:aAa}{ρ:Nat->LV}{l:Nat}{J:Nat->aAa->Prop}{Jx:aAa->Prop}{items:List (List Slot)}
theorem si.ext(I:si P S w ρ l J Jx items){k:Nat}{W:aAa}(h:J k W):Ext S (SW S w.heap.size W) w W:=by
 obtain⟨A,B⟩:=I.M1 k W h;exact⟨A,fun b z u=>⟨B b z u,by rintro (h | h);exact u h;omega⟩⟩
theorem Core.none{F:YP}{ρ:Nat->LV}(hl:∀k,F.S0 k->k<F.w0.heap.size):Core F [] ρ F.w0:=
 ⟨hl,ZY _,fun _ _ _=>rfl,rfl,rfl,rfl,fun i u h=>by simp[aY] at h,fun i u b h=>by simp[aY] at h,fun i j u z b h=>by simp[aY] at h,fun i u b h=>by simp[aY] at h⟩
theorem Un.none{S:Nat->Prop}{ρ:Nat->LV}:Un S ρ []=S:=by
 funext k;refine propext ⟨fun h=>?_,.inl⟩;rcases h with h |⟨i,u,h,_⟩
 ·exact h
 ·simp[aY] at h
theorem Core.ct{F:YP}(hR:∀k,¬F.R k){d:List (Nat×XB)}{ρ:Nat->LV}{W:aAa}(hc:Core F d ρ W):Below F.w0.heap.size F.w0 W:=⟨hc.os,hc.tape,hc.output,hc.size,fun k h=>hc.frame k h (hR k)⟩
theorem si.start(I:si P S w ρ l J Jx items){k:Nat}{W:aAa}(hJ:J k W){g:List (Nat×Slot)}(hg:D2 ρ S w g){ρ1:Nat->LV}{S1:Nat->Prop}{W1:aAa}{a:aAm}(hs:∀t s,lk g t=some s->s.ok ρ1 S1 W1 (a.tmps.getD t undef))(hz:a.tmps.size=N)(hd:a.defers=[]):
  St (FW P N S w.heap.size W) ⟨g,[]⟩ a W:=by
 refine⟨⟨ρ,Core.none (F:=FW P N S w.heap.size W) (fun k h=>?_),fun t s u=>?_⟩,hz,hd⟩
 ·show k<W.heap.size;rcases h with h | h
  ·have:=I.low k h;have:=(I.M1 _ W hJ).1;omega
  ·exact h.2
 ·obtain⟨A,B⟩:=hg.spec t s u;rw[Un.none];refine B S1 W1 _ W _ (Slot.WY s _ (hs t s u) (Ext.refl _ _) (fun i z=>?_)) (I.ext hJ);rw[A] at z;simp at z
def IQ(N:Nat)(J:Nat->aAa->Prop)(m:Nat)(gs:Nat->List (Nat×Slot))(Q:aAl->aAm->aAa->Prop)(k:Nat):aAl->aAm->aAa->Prop
 | .normal,a,h=>k<m/\J (k+1) h/\∃F',F'.N=N/\F'.df=[]/\St F' ⟨gs (k+1),[]⟩ a h
 |e,a,h=>Q e a h
theorem Su{c:aAj}{cs:List aAj}{Q:aAl->aAm->aAa->Prop}(I:si P S w ρ l J Jx items){W0:aAa}{O:AS}(gs:Nat->List (Nat×Slot))(hg:∀k,D2 ρ S w (gs k))(h0:Sub (FW P N S w.heap.size W0) O ⟨gs 0,[]⟩)(ya:J 0 W0)
  (h:∀k V,J k V->k<=items.length->Sw.W (FW P N S w.heap.size V) [c] ⟨gs k,[]⟩ (IQ N J items.length gs Q k)):Sw.W (FW P N S w.heap.size W0) (.loop c::cs) O Q:=by
 intro a wc X;obtain⟨⟨ρ1,m9,bp⟩,va,aa⟩:=h0 a wc X;have E:J 0 wc:=I.below 0 W0 wc ya (m9.ct (fun _ h=>h));have T:=I.start (N:=N) E (hg 0) bp va aa;let u:aAm->aAa->Nat->Prop:=fun a V m=>∃k,k+m=items.length/\J k V/\St (FW P N S w.heap.size V) ⟨gs k,[]⟩ a V
 have F:∀a V,(∃m,u a V m)->∃m,u a V m/\∀k,u a V k->m<=k:=by
  rintro a V ⟨m,hm⟩
  induction m using Nat.strongRecOn with
  |_ m ih=>
   by_cases G:∃k,k<m/\u a V k
   ·obtain⟨k,M,D⟩:=G;exact ih k M D
   ·exact⟨m,hm,fun k A=>Nat.le_of_not_lt fun YI=>G ⟨k,YI,A⟩⟩
 classical
 let μ:aAm->aAa->Nat:=fun a V=>if z:∃m,u a V m then Classical.choose (F a V z) else 0
 have H:∀a V (z:∃m,u a V m),u a V (μ a V)/\∀k,u a V k->μ a V<=k:=by
  intro a V z;have:=aD4 (F a V z);simp only[μ,dif_pos z];exact this
 refine wpIn_loop (Q:=Exit.then (run Fence.wide P Q cs) Q) (fun a V=>∃m,u a V m) μ ⟨items.length,0,by simp,E,T⟩ fun a V z=>?_;obtain⟨⟨k,M,D,h3⟩,J8⟩:=H a V z;have A:=h k V D (by omega) a V h3;refine wpIn_mono (show c.wpIn Fence.wide 0 P _ a V from A) ?_;intro e K L C;cases e<;>simp only[Exit.then,run,IQ] at C ⊢<;>try exact C
 obtain⟨q1,R,F',q3,q4,⟨ρ2,ZG,bo⟩,q5,q6⟩:=C;have U:=I.start (N:=N) R (hg (k+1)) bo (by rw[q5,q3]) (by rw[q6,q4]);have B:u K L (items.length - (k+1)):=⟨k+1,by omega,R,U⟩;refine⟨⟨_,B⟩,?_⟩;have:=(H K L ⟨_,B⟩).2 _ B;omega
theorem Nb{cs:List aAj}{Q:aAl->aAm->aAa->Prop}(I:si P S w ρ l J Jx items){V:aAa}{k id d d':Nat}{item:List Slot}{pre:List aAi}{yt:Tmp}{xs:List aAc}{ts:Array aAb}{ty ty':aAb}{p p':String}{af af':Array Edge}{T:aAb}
  {O σ1:AS} {g2:List (Nat×Slot)} (hJ:J k V) (br:items[k]? =some item) (YM:Sw.J (FW P N S w.heap.size V) (pre++[(⟨some d,.call ⟨.value (.tmp yt),xs.toArray,ts⟩,ty,p,af,none⟩:aAi),⟨some d',.unOp .not T (.tmp d),ty',p',af',none⟩]).toArray pre O σ1)
  (hy:lk σ1.g yt=some (.v (Wr.n7 (.func (.yield l) #[] #[]) rfl) ())) (ha:W5 σ1 false xs item) (hil:eC item=[]) (hd1:σ1.d=[]) (hd:Nat.blt d N=true) (hd':Nat.blt d' N=true) (L7:D2 ρ S w g2) (hg2:ir σ1.g g2)
  (ht:∀V',J (k+1) V'->Sw.W (FW P N S w.heap.size V') cs ⟨(d',.v Wr.bool false)::(d,.v Wr.bool true)::g2,[]⟩ Q)
  (hf:∀V',Jx V'->Sw.W ⟨P,N,fun _=>False,V',fun _=>False,none,[]⟩ cs ⟨[(d',.v Wr.bool true)],[]⟩ Q):
  Sw.W (FW P N S w.heap.size V) (.region id (pre++[(⟨some d,.call ⟨.value (.tmp yt),xs.toArray,ts⟩,ty,p,af,none⟩:aAi),⟨some d',.unOp .not T (.tmp d),ty',p',af',none⟩]).toArray false::cs) O Q:=by
 intro a wc ZM;refine wpIn_region_lit ?_;refine YM _ _ a wc ZM fun u w1 mj=>?_;obtain⟨⟨ρ1,m9,L⟩,X,ab⟩:=mj;have Y6:Below V.heap.size V w1:=m9.ct (fun _ h=>h);have H:=L yt _ hy;simp only[Slot.ok] at H;have H:=Ht.1 H;have K:=cK m9 L (Op.call ⟨.value (.tmp yt),xs.toArray,ts⟩).operands;have aa:=ha.spec (ys:=(Op.call ⟨.value (.tmp yt),xs.toArray,ts⟩).operands) (fun x U=>by simp[Op.operands,Call.operands,U]) K;rw[hd1,Un.none] at aa;have ae:aX ρ (SW S w.heap.size V) w1 item (xs.map u.eval):=nI _ _ aa (by simp only[V6,r5];exact Ext.refl _ _) (fun i C=>by rw[hil] at C;simp at C);obtain⟨fn,ac,ad,body,h1,G⟩:=I.aIa k item V w1 _ br hJ Y6 ae;have K9:(execOp u.eval ⟨some d,.call ⟨.value (.tmp yt),xs.toArray,ts⟩,ty,p,af,none⟩).run P w1= .ok (.round l fn ac ad body) w1:=by
  have e1:u.eval (.tmp yt)= .func (.yield l) #[] #[]:=H;have e2:(xs.toArray.map u.eval)=(xs.map u.eval).toArray:=by simp
  simp only[execOp,resolve,e1];simp[go_sem,e2,h1]
 refine Ba (F:=FW P N S w.heap.size V) (K:=fun v w'=>(v= .bool true/\J (k+1) w')\/(v= .bool false/\Jx w')) (zW (g:=σ1.g) (GK.none rfl) (fun t x _ U=>L t _ U)) (.inr (.inr (.inr ⟨l,fn,ac,ad,body,w1,K9,G.mono ?_⟩))) ?_
 ·rintro e w' (⟨rfl,A⟩|⟨rfl,A⟩)
  ·exact⟨_,rfl,.inl ⟨rfl,A⟩⟩
  ·exact⟨_,rfl,.inr ⟨rfl,A⟩⟩
 have YI:d<u.tmps.size:=by rw[X];exact E7 hd
 rintro v w' (⟨rfl,A⟩|⟨rfl,A⟩)
 ·have M:St (FW P N S w.heap.size w') ⟨(d,.v Wr.bool true)::g2,[]⟩ (u.put (some d) (.bool true)) w':=by
   refine⟨⟨ρ,Core.none (F:=FW P N S w.heap.size w') (fun q h=>?_),fun t s z=>?_⟩,by rw[lE,X],ab⟩
   ·show q<w'.heap.size;rcases h with h | h
    ·have:=I.low q h;have:=(I.M1 _ w' A).1;omega
    ·exact h.2
   ·rw[mN] at z;rw[lF u d _ t YI];split at z
    ·rename_i B;cases z;rw[YC B];exact nR true _ _ _
    ·rename_i B;rw[XV B,Un.none];obtain⟨k1,k2⟩:=L7.spec t s z;refine k2 _ w1 _ w' _ (Slot.WY s _ (L t s (hg2.spec t s z)) (Ext.refl _ _) (fun i C=>?_)) (I.ext A);rw[k1] at C;simp at C
  have R:Sw.J (FW P N S w.heap.size w') (pre++[(⟨some d,.call ⟨.value (.tmp yt),xs.toArray,ts⟩,ty,p,af,none⟩:aAi),⟨some d',.unOp .not T (.tmp d),ty',p',af',none⟩]).toArray [(⟨some d',.unOp .not T (.tmp d),ty',p',af',none⟩:aAi)] ⟨(d,.v Wr.bool true)::g2,[]⟩ ⟨(d',.v Wr.bool false)::(d,.v Wr.bool true)::g2,[]⟩:=
   Sw.J.cons (GK.none rfl) (Ji (b:=true) (by simp[dH,lk])) rfl hd' Sw.J.nil
  have:=R (Exit.then (run Fence.wide P Q cs) Q) [] _ w' M (fun D E G=>wpListIn_nil (show run Fence.wide P Q cs D E from ht w' A D E G));exact this
 ·have M:St ⟨P,N,fun _=>False,w',fun _=>False,none,[]⟩ ⟨[(d,.v Wr.bool false)],[]⟩ (u.put (some d) (.bool false)) w':=by
   refine⟨⟨ρ,Core.none (F:=⟨P,N,fun _=>False,w',fun _=>False,none,[]⟩) (fun q h=>h.elim),fun t s z=>?_⟩,by rw[lE,X],ab⟩;rw[mN] at z;rw[lF u d _ t YI];split at z
   ·rename_i B;cases z;rw[YC B];exact nR false _ _ _
   ·simp[lk] at z
  have R:Sw.J ⟨P,N,fun _=>False,w',fun _=>False,none,[]⟩ (pre++[(⟨some d,.call ⟨.value (.tmp yt),xs.toArray,ts⟩,ty,p,af,none⟩:aAi),⟨some d',.unOp .not T (.tmp d),ty',p',af',none⟩]).toArray [(⟨some d',.unOp .not T (.tmp d),ty',p',af',none⟩:aAi)] ⟨[(d,.v Wr.bool false)],[]⟩ ⟨[(d',.v Wr.bool true)],[]⟩:=
   Sw.J.cons (GK.none rfl) (Ji (b:=false) (by simp[dH,lk])) rfl hd' (Sw.J.fin (Qt (.cons (by simp[lk,AS.put]) .nil)))
  have:=R (Exit.then (run Fence.wide P Q cs) Q) [] _ w' M (fun D E G=>wpListIn_nil (show run Fence.wide P Q cs D E from hf w' A D E G));exact this
def dk(P:aAe)(fn:Func)(J:Nat->aAa->Prop)(Jx:aAa->Prop)(m:Nat):aAl->aAm->aAa->Prop:=bodyPost P fn fun e h=>(∃v,e= .returned v)/\(J m h\/Jx h)
theorem dk.of{fn:Func}{m:Nat}(F4:fn.results= #[]){e:aAl}(he:e= .normal\/e= .ret){a:aAm}{V:aAa}(hd:a.defers=[])(h:J m V\/Jx V):dk P fn J Jx m e a V:=by
 have z:a.defers=[]/\∃v,(results fn a.tmps).run P V= .ok v V/\((∃u,Ending.returned v= .returned u)/\(J m V\/Jx V)):=⟨hd,_,Uy F4,⟨_,rfl⟩,h⟩;rcases he with rfl | rfl<;>exact z
theorem Sv{gs:Nat->List (Nat×Slot)}{Q:aAl->aAm->aAa->Prop}(I:si P S w ρ l J Jx items){k:Nat}{V:aAa}{O:AS}(hJ:J (k+1) V)(hk:k<items.length)(h:Sub (FW P N S w.heap.size V) O ⟨gs (k+1),[]⟩):Sw.W (FW P N S w.heap.size V) [] O (IQ N J items.length gs Q k):=by
 intro a z A;have u:=h a z A;obtain⟨ρ1,B,_⟩:=u.core;exact⟨hk,I.below _ V z hJ (B.ct (fun _ h=>h)),_,rfl,rfl,u⟩
theorem Ys{fn:Func}{gs:Nat->List (Nat×Slot)}{k:Nat}{id:Nat}{Q':aAl->aAm->aAa->Prop}(I:si P S w ρ l J Jx items)(F4:fn.results= #[]){V:aAa}{O:AS}(hJ:J k V)(hk:k=items.length)(hQ:∀a V',dk P fn J Jx items.length .normal a V'->Q' (.exit id) a V'):XQ (FW P N S w.heap.size V) O (IQ N J items.length gs Q' k) (.exit id):=by
 intro a u z;obtain⟨ρ1,A,_⟩:=z.core;exact hQ a u (dk.of F4 (.inl rfl) z.defers (.inl (hk ▸ I.below _ V u hJ (A.ct (fun _ h=>h)))))
theorem Sx{fn:Func}{Q':aAl->aAm->aAa->Prop}(I:si P S w ρ l J Jx items)(F4:fn.results= #[]){V:aAa}{O:AS}(hJ:Jx V)(hQ:∀a V',dk P fn J Jx items.length .ret a V'->Q' .ret a V'):XQ ⟨P,N,fun _=>False,V,fun _=>False,none,[]⟩ O Q' .ret:=by
 intro a u z;obtain⟨ρ1,A,_⟩:=z.core;exact hQ a u (dk.of F4 (.inr rfl) z.defers (.inr (I.aLj V u hJ (A.ct (fun _ h=>h)))))
end
theorem Qu{P:aAe}{f:aAf}{fn:Func}{c:aAj}{N:Nat}{cap:List Slot}{items:List (List Slot)}{X:Type}
  (hf:P.funcs[f]? =some fn) (hb:fn.body=some c) (hN:fn.ntmps=N) (hle:Nat.ble (cap.length+1) N=true) (us:X->List aAd) (gx:X->List (Nat×Slot))
  (wh:∀(ρ:Nat->LV) (S:Nat->Prop) (w:aAa) (vs:List aAd),aX ρ S w cap vs->∃x,vs=us x/\D2 ρ S w (gx x)/\∀t s,lk (gx x) t=some s->∃j u,t=j+1/\vs[j]? =some u/\s.ok ρ S w u)
  (h:∀S w ρ l J Jx x,si P S w ρ l J Jx items->J 0 w->D2 ρ S w (gx x)->W (FW P N S w.heap.size w) [c] ⟨(0,.v (Wr.n7 (.func (.yield l) #[] #[]) rfl) ())::gx x,[]⟩ (dk P fn J Jx items.length)):dm P f cap items:=by
 intro S w vs ρ l J Jx r8 hv ya aRa aKs aSz hY;have I:si P S w ρ l J Jx items:=⟨r8,aRa,aKs,aSz,hY⟩;obtain⟨x,O,C,K⟩:=wh ρ S w vs hv;refine calls_of_wp hf hb ?_;have L:=Hm hv;have hle:=E7 hle;have D:St (FW P N S w.heap.size w) ⟨(0,.v (Wr.n7 (.func (.yield l) #[] #[]) rfl) ())::gx x,[]⟩ { tmps:=(.func (.yield l) #[] #[]::vs).toArray++Array.replicate (fn.ntmps - (Value.func (.yield l) #[] #[]::vs).toArray.size) undef,defers:=[] } w:=by
  have E:D2 ρ S w ((0,.v (Wr.n7 (.func (.yield l) #[] #[]) rfl) ())::gx x):= .cons (@C0.flat _ (Wr.n7 (.func (.yield l) #[] #[]) rfl) ⟨fun h=>h⟩ _ _ _ _) C;refine I.start (N:=N) ya E (ρ1:=ρ) (S1:=S) (W1:=w) (fun t s A=>?_) ?_ rfl
  ·rw[mN] at A;split at A
   ·rename_i G;subst G;cases A;simp only[Slot.ok];refine Ht.2 ?_;simp[sf,Array.getElem?_append]
   ·obtain⟨j,u,rfl,z,B⟩:=K t s A;have F:j<vs.length:=by
     rcases R8 j vs.length with h | h
     ·exact h
     ·simp[dc h] at z
    have:((Value.func (.yield l) #[] #[]::vs).toArray++Array.replicate (fn.ntmps - (Value.func (.yield l) #[] #[]::vs).toArray.size) undef).getD (j+1) undef=u:=by
     rw[sf,aDn (by simpa using F)];simp[z]
    rw[this];exact B
  ·simp only[aEm,aD9,aEn,H6];omega
 have z:=h S w ρ l J Jx x I ya C _ w D;have B:c.wpIn Fence.wide 0 P (Exit.then (run Fence.wide P (dk P fn J Jx items.length) []) (dk P fn J Jx items.length)) _ w:=z;refine wpIn_wide.1 (wpIn_mono B ?_);intro e a M H;cases e<;>exact H
theorem DU{P:aAe}{f:aAf}{fn:Func}{c:aAj}{N:Nat}{α:Type}{e:Wr α}{z:α}{items:List (List Slot)}
  (hf:P.funcs[f]? =some fn) (hb:fn.body=some c) (hN:fn.ntmps=N) (hle:Nat.ble 2 N=true)
  (h:∀S w ρ l J Jx b off,si P S w ρ l J Jx items->J 0 w->C0 ρ S w (.v (Wr.cp b off e) z)->W (FW P N S w.heap.size w) [c] ⟨[(0,.v (Wr.n7 (.func (.yield l) #[] #[]) rfl) ()),(1,.v (Wr.cp b off e) z)],[]⟩ (dk P fn J Jx items.length)):dm P f [.ZH e z] items:=by
 refine Qu (X:=Nat×Nat) hf hb hN hle (fun x=>[.pointer (some ⟨x.1,x.2,none⟩)]) (fun x=>[(1,.v (Wr.cp x.1 x.2 e) z)]) (fun ρ S w vs C=>?_) (fun S w ρ l J Jx x I E F=>h S w ρ l J Jx x.1 x.2 I E (F.spec 1 _ rfl));simp only[aX,Slot.ok] at C;obtain⟨u,O,rfl,⟨b,off,G,rfl,H,K,L,M⟩,rfl⟩:=C;have B:(Slot.v (Wr.cp b off e) z).ok ρ S w (.pointer (some ⟨b,off,none⟩)):=by simp only[Slot.ok];exact Na.2 ⟨rfl,G,H,K,L,M⟩
 refine⟨(b,off),rfl,.cons (.cp B) .nil,fun t s A=>?_⟩;rw[mN] at A;split at A
 ·rename_i D;cases A;exact⟨0,_,D.symm,rfl,B⟩
 ·simp[lk] at A
theorem Qv{P:aAe}{f:aAf}{fn:Func}{c:aAj}{N:Nat}{α β:Type}{e:Wr α}{z:α}{e':Wr β}{z':β}{items:List (List Slot)}
  (hf:P.funcs[f]? =some fn) (hb:fn.body=some c) (hN:fn.ntmps=N) (hle:Nat.ble 3 N=true)
  (h:∀S w ρ l J Jx b off b' D9,si P S w ρ l J Jx items->J 0 w->C0 ρ S w (.v (Wr.cp b off e) z)->C0 ρ S w (.v (Wr.cp b' D9 e') z')->W (FW P N S w.heap.size w) [c] ⟨[(0,.v (Wr.n7 (.func (.yield l) #[] #[]) rfl) ()),(1,.v (Wr.cp b off e) z),(2,.v (Wr.cp b' D9 e') z')],[]⟩ (dk P fn J Jx items.length)):
  dm P f [.ZH e z,.ZH e' z'] items:=by
 refine Qu (X:=(Nat×Nat)×(Nat×Nat)) hf hb hN hle (fun x=>[.pointer (some ⟨x.1.1,x.1.2,none⟩),.pointer (some ⟨x.2.1,x.2.2,none⟩)]) (fun x=>[(1,.v (Wr.cp x.1.1 x.1.2 e) z),(2,.v (Wr.cp x.2.1 x.2.2 e') z')]) (fun ρ S w vs E=>?_)
  (fun S w ρ l J Jx x I G F=>h S w ρ l J Jx x.1.1 x.1.2 x.2.1 x.2.2 I G (F.spec 1 _ rfl) (F.spec 2 _ rfl))
 simp only[aX,Slot.ok] at E;obtain⟨u,M4,rfl,⟨b,off,H,rfl,K,L,M,O⟩,u',aa,rfl,⟨b',D9,Q,rfl,R,T,U,V⟩,rfl⟩:=E;have C:(Slot.v (Wr.cp b off e) z).ok ρ S w (.pointer (some ⟨b,off,none⟩)):=by simp only[Slot.ok];exact Na.2 ⟨rfl,H,K,L,M,O⟩
 have D:(Slot.v (Wr.cp b' D9 e') z').ok ρ S w (.pointer (some ⟨b',D9,none⟩)):=by simp only[Slot.ok];exact Na.2 ⟨rfl,Q,R,T,U,V⟩
 refine⟨((b,off),(b',D9)),rfl,.cons (.cp C) (.cons (.cp D) .nil),fun t s A=>?_⟩;rw[mN] at A;split at A
 ·rename_i B;cases A;exact⟨0,_,B.symm,rfl,C⟩
 ·rw[mN] at A;split at A
  ·rename_i B;cases A;exact⟨1,_,B.symm,rfl,D⟩
  ·simp[lk] at A
def chunks{α:Type}(n:Nat)(xs:List α):List (List α):=(List.range ((xs.length+n - 1) / n)).map fun k=>(xs.drop (k*n)).take n
theorem xX{α:Type}{n:Nat}(hn:1<=n)(xs:List α){k:Nat}:k<(chunks n xs).length↔k*n<xs.length:=by
 simp only[chunks,oc,aEo];rw[Nat.lt_div_iff_mul_lt (by omega)];omega
theorem Nc{α:Type}{n:Nat}(hn:1<=n){xs:List α}{k:Nat}(h:k*n<xs.length):(chunks n xs)[k]? =some ((xs.drop (k*n)).take n):=by
 have:=(xX hn xs).2 h;simp only[chunks,oc,aEo] at this;simp[chunks,this]
theorem Kt{α:Type}{xs:List α}{n:Int}(hn:1<=n)(tg:n<=4294967296)(hlen:(xs.length:Int)<=4294967296){k:Nat}(h:(k:Int)*n<xs.length):
  k*n.toNat<xs.length/\sub xs (k*n) xs.length=some (xs.drop (k*n.toNat))/\
  sub xs (k*n) (ar .add .i64 (k*n) (min n ((xs.drop (k*n.toNat)).length:Int)))=some ((xs.drop (k*n.toNat)).take n.toNat)/\
  (ar .add .i64 (k*n) (min n ((xs.drop (k*n.toNat)).length:Int))<=ar .add .i64 (k*n) (min n ((xs.drop (k*n.toNat)).length:Int))/\ar .add .i64 (k*n) (min n ((xs.drop (k*n.toNat)).length:Int))<=xs.length)/\ar .add .i64 (k*n) n=((k+1:Nat):Int)*n:=by
 obtain⟨m,rfl⟩:∃m:Nat,n=m:=⟨n.toNat,by omega⟩;have u:(0:Int)<=(k:Int)*m:=Int.mul_nonneg (by omega) (by omega);have z:((k:Int)*m)=((k*m:Nat):Int):=by push_cast;rfl
 have C:k*m<xs.length:=by rw[z] at h;exact_mod_cast h
 have A:(xs.drop (k*m)).length=xs.length - k*m:=Z2 ..;have B:∀x:Int,0<=x->x<=4294967296->ar .add .i64 (k*m) x=k*m+x:=by
  intro x K L;unfold ar;refine Bh ?_;unfold Dh;have D:IntKind.min .i64= -9223372036854775808:=by decide
  have E:IntKind.max .i64=9223372036854775807:=by decide
  rw[D,E];omega
 simp only[A5];have F:(0:Int)<=min (m:Int) ((xs.drop (k*m)).length:Int):=by omega
 have G:min (m:Int) ((xs.drop (k*m)).length:Int)<=4294967296:=by omega
 rw[B _ F G,B _ (by omega) tg];refine⟨C,?_,?_,⟨aDo _,by rw[A];omega⟩,by push_cast;rw[Int.add_mul,Int.one_mul]⟩
 ·unfold sub;rw[YC ⟨u,by omega,aDo _⟩,z,A5,A5,aDd]
 ·unfold sub;rw[YC ⟨u,by omega,by rw[A];omega⟩];have H:((k:Int)*m).toNat=k*m:=by omega
  have I:((k:Int)*m+min (m:Int) ((xs.drop (k*m)).length:Int)).toNat=k*m+min m (xs.drop (k*m)).length:=by omega
  rw[H,I,List.drop_take];congr 1;rw[Nat.add_sub_cancel_left,<-List.take_take,aDd]
def L3{α:Type}(xs:List α):List (Int×α):=(xs.zipIdx.map fun x=>((x.2:Int),x.1)).reverse
end Go.Sw
namespace Go.Sw
open Go Go.RowKit
section
variable {F:YP}{O:AS}{pb:Option Nat}{s:Slot}{d:Option Tmp}{ty:aAb}{p:String}{af:Array Edge}{gd:Option (Nat×Bool)}{x y z:aAc}
theorem Ad{T:aAb}{zv:aAd}{cs:List aAd}{l:List Slot}{new:List (Nat×XB)}(i:Nat)(hz:∀w,(zeroValue T).run F.P w= .ok zv w)(hc:zv.cells=cs.toArray)(hl:yf cs l new)(hn:fg new)(hf:O.free new=true)(E2:(eC l).all (fun j=> !Nat.beq j i)=true):
  JO F ⟨d,.alloc T,ty,p,af,gd⟩ O (.ptr i 0) ((i,.box T l)::new):=by
 intro ρ S a w K;obtain⟨ρ',V,N,K',h3,h4⟩:=BI hn hf K;refine XC.value (w':=w.alloc (.cells cs.toArray T)) (v:= .pointer (some ⟨w.heap.size,0,none⟩)) (by simp[execOp,Instr.alloc,hz,xU,hc]) ?_;obtain⟨ρ2,X,k2,k3,Q⟩:=ZC.box (ρ:=ρ') (S:=S) (w:=w) (T:=T) i (hl ρ' S w N) E2;have I:∀j,j≠i->ρ2 j=ρ' j:=fun j u=>X j (by rw[cN,XV (kq u)];rfl);have D:∀j A,j≠i->aY new j=some A->ρ2 j= .of (.slice none 0 0):=fun j A u h=>by rw[I j u,N j A h]
 have L:Un S ρ2 ((i,.box T l)::new)=Un S ρ2 [(i,.box T l)]:=by
  funext k;refine propext ⟨fun h=>?_,fun h=>?_⟩
  ·rcases h with h |⟨j,A,C,E⟩
   ·exact .inl h
   ·by_cases u:j=i
    ·subst u;exact .inr ⟨j,.box T l,by simp[aY],E⟩
    ·rw[cN,XV (kq u)] at C;rw[D j A u C] at E;simp[pN,j1] at E
  ·rcases h with h |⟨j,A,C,E⟩
   ·exact .inl h
   ·rw[cN] at C;split at C
    ·rename_i u;subst u;exact .inr ⟨i,.box T l,by simp[aY],E⟩
    ·simp[aY] at C
 refine⟨ρ2,fun j u=>?_,k2,?_,?_,?_,?_⟩
 ·rw[cN] at u;split at u
  ·cases u
  ·rename_i z;rw[I j (kq z)];exact V j u
 ·rw[L];exact k3
 ·intro j A u;rw[L];rw[cN] at u;split at u
  ·rename_i z;subst z;cases u;exact Q.own _ _ (by rw[cN,YC rfl])
  ·rename_i z;rw[D j A (kq z) u];exact hn.spec j A u _ _ _
 ·intro j A b u B;rw[cN] at u;split at u
  ·rename_i z;subst z;cases u;exact Q.fresh _ _ b (by rw[cN,YC rfl]) B
  ·rename_i z;rw[D j A (kq z) u] at B;simp[pN,j1] at B
 ·intro j R A U b u G B M;rw[cN] at u G;split at u
  ·rename_i z;subst z;split at G
   ·rename_i H;exact H
   ·rename_i H;rw[D R U (kq H) G] at M;simp[pN,j1] at M
  ·rename_i z;rw[D j A (kq z) u] at B;simp[pN,j1] at B
def Lns{α β:Type}(e:Wr α)(z:α)(off:Nat)(e':Wr β)(z':β)(u:β->α):Prop:=∀S w cs,e.ok z S w cs->∃a c d,cs=a++(c++d)/\a.length=off/\e'.ok z' S w c/\∀z2 c2,e'.ok z2 S w c2->e.ok (u z2) S w (a++(c2++d))
theorem Lns.here{α:Type}{e:Wr α}{z:α}:Lns e z 0 e z (fun y=>y):=fun S w u h=>⟨[],u,[],by simp,rfl,h,fun B C A=>by simpa using A⟩
theorem Lns.snd{α β γ:Type}{a:Wr α}{b:Wr β}{e':Wr γ}{z:α×β}{z':γ}{off:Nat}{u:γ->β}(h:Lns b z.2 off e' z' u):Lns (Wr.pr a b) z (a.n+off) e' z' (fun y=>(z.1,u y)):=by
 rintro S w M ⟨c,d,rfl,D,L⟩;obtain⟨B,G,C,rfl,H,I,K⟩:=h S w d L;exact⟨c++B,G,C,by simp,by rw[sM,a.len D,H],I,fun E A F=>⟨c,B++(A++C),by simp,D,K E A F⟩⟩
theorem Va{α β:Type}{e:Wr α}{zs:List α}{z:α}{e':Wr β}{z' z2:β}{u:β->α}{T U:aAb}{i k off:Nat}(hz:zs[k]? =some z)(hx:dH O.g x=some (.el i k e.n off))(he:aY O.d i=some (.arr T e zs))(hy:dH O.g y=some (.v e' z2))(hp:Lns e z off e' z' u)
  (hS:∀w,(sizeOf U).run F.P w= .ok e'.n w):JM F ⟨none,.store U x y,ty,p,af,gd⟩ O ⟨O.g,(i,.arr T e (zs.set k (u z2)))::O.d⟩:=by
 refine qH he rfl fun ρ a w V I=>?_;have K:=cK V I (Op.store U x y).operands;obtain⟨b,aa,h,cs,A,L,h2,H,h4,h5,h6,h7⟩:=QN K (x:=x) (by simp[Op.operands]) hx he;have G:=rA (s:= .v e' z2) rfl (Kn I hy);simp only[Slot.j9] at G;obtain⟨B,c,C,rfl,hl,V2,y6⟩:=qY h4 hz;obtain⟨D,M,E,rfl,P0,N,ab⟩:=hp _ w c V2;have Q:h++(B++(D++(M++E)++C)++A)=(h++B++D)++(M++(E++C++A)):=by simp
 rw[Q] at H;have R:=lH (P:=F.P) (w:=w) (U:=U) (off:=h.length+(k*e.n+off)) hS (by have:=e'.len G;simp only[ed] at this;omega) (fun q X=>e'.cell G q X) H (by simp[hl,P0,aDu]) (e'.len N);have S:(h++B++D)++((a.eval y).cells.toList++(E++C++A))=h++((B++((D++((a.eval y).cells.toList++E))++C))++A):=by simp
 refine⟨b,w.setRow b ((h++B++D)++((a.eval y).cells.toList++(E++C++A))).toArray,.inl (by rw[L];rfl),ee.setRow w b _,?_,fun hE=>?_⟩
 ·exact lI h2 R
 ·refine .inr ⟨b,aa,h,B++((D++((a.eval y).cells.toList++E))++C),A,by simpa using L,?_,Wr.XF (y6 (u z2) _ (ab z2 _ G)) hE,by simpa using h5,?_,by simpa using h7⟩
  ·rw[<-S];exact setRow_heap w b _ _ T _ H
  ·have:=e'.len G;have:=e'.len N;simp only[sM] at h6 ⊢;omega
theorem Eu{α:Type}{x:Option α}{r:α}(h:x=some r):(x.bind fun v=>some v)=some r:=by rw[h];rfl
end
end Go.Sw
namespace Go.Sw
open Go
theorem DV{α:Type}(xs:List α):(L3 xs).length=xs.length:=by simp[L3]
theorem HQ{α:Type}{xs:List α}{k:Nat}(h:k<xs.length):∃x,(L3 xs)[k]? =some ((xs.length:Int) - 1 - (k:Nat),x)/\Sw.idx xs ((xs.length:Int) - 1 - (k:Nat))=some x:=by
 have u:xs.length - 1 - k<xs.length:=by omega
 refine⟨xs[xs.length - 1 - k],?_,?_⟩
 ·unfold L3;rw[List.getElem?_reverse (by simpa using h)];simp only[oc,List.length_zipIdx,oe,List.getElem?_zipIdx,J0 u,tw,aC5];congr 2;omega
 ·unfold Sw.idx;have e:((xs.length:Int) - 1 - (k:Nat)).toNat=xs.length - 1 - k:=by omega
  rw[YC (by omega),e,J0 u]
theorem HR{n k:Nat}(h:(n:Int)<=4294967296)(hk:k<=n):ar .sub .i64 ((n:Int) - 1 - (k:Nat)) 1=(n:Int) - 1 - ((k+1:Nat):Int):=by
 have e:(n:Int) - 1 - (k:Nat) - 1=(n:Int) - 1 - ((k+1:Nat):Int):=by push_cast;omega
 show IntKind.wrap .i64 _=_;rw[e];refine Bh ?_;unfold Dh;have u:IntKind.min .i64= -9223372036854775808:=by decide
 have z:IntKind.max .i64=9223372036854775807:=by decide
 rw[u,z];omega
theorem DW{n:Nat}(h:(n:Int)<=4294967296):ar .sub .i64 (n:Int) 1=(n:Int) - 1 - ((0:Nat):Int):=by
 have e:(n:Int) - 1=(n:Int) - 1 - ((0:Nat):Int):=by simp
 show IntKind.wrap .i64 ((n:Int) - 1)=_;refine(Bh ?_).trans e;unfold Dh;have u:IntKind.min .i64= -9223372036854775808:=by decide
 have z:IntKind.max .i64=9223372036854775807:=by decide
 rw[u,z];omega
end Go.Sw
namespace Go.Sw
open Go Go.RowKit
section
variable {F:YP}{O:AS}{x y:aAc}{d:Option Tmp}{ty:aAb}{p:String}{af:Array Edge}{gd:Option (Nat×Bool)}
end
end Go.Sw
namespace Go.Sw
open Go
theorem Bm{F:YP}{O:AS}{o:aAi}{l:List Slot}{new:List (Nat×XB)}{α:Type}{e:Wr α}{z:α}(h:JO F o O (.agg l) new)(hs:N3 l e z)(ha:e.agg=true):JO F o O (.v e z) new:=by
 intro ρ S a w K;refine(h ρ S a w K).mono ?_;rintro v H ⟨ρ',D,E,A,G⟩;refine⟨ρ',D,E,?_,G⟩;simp only[Slot.ok] at A ⊢;obtain⟨u,B,C⟩:=A;exact⟨u,(hs _ _ _ u).1 C,by rw[B];simp[Wr.pk,ha]⟩
theorem HS{P:aAe}{fn:Func}{a:aAm}{w:aAa}{r0 r1 r2 r3 r4:ResultVar}{v0 v1 v2 v3 v4:aAd}(F4:fn.results= #[r0,r1,r2,r3,r4])(h0:(wW a r0).run P w= .ok v0 w)(h1:(wW a r1).run P w= .ok v1 w)(h2:(wW a r2).run P w= .ok v2 w)(h3:(wW a r3).run P w= .ok v3 w)(h4:(wW a r4).run P w= .ok v4 w):(results fn a.tmps).run P w= .ok (.tuple #[v0,v1,v2,v3,v4]) w:=by
 rw[xS,F4];simp only[aDy,aCt,aEs,Sem.run_bind,Sem.run_map,h0,h1,h2,h3,h4,Result.andThen_ok,Sem.run_pure];simp
section
variable {F F':YP}{O:AS}{fn:Func}{r0 r1 r2 r3 r4:ResultVar}{s0 s1 s2 s3 s4:Slot}{new:List (Nat×XB)}
theorem Sy(hF:al F F')(hR:∀k,¬F.R k)(F4:fn.results= #[r0,r1,r2,r3,r4])(h0:RV F O r0 s0)(h1:RV F O r1 s1)(h2:RV F O r2 s2)(h3:RV F O r3 s3)(h4:RV F O r4 s4)(hn:G0 new O.d)(ZW:lG (.XU [s0,s1,s2,s3,s4]) new=true):XQ F' O (Pr F fn (.XU [s0,s1,s2,s3,s4]) new) .ret:=
 yU hF fun ρ a w h u=>by
  obtain⟨z,E,b0⟩:=h0 ρ a w h u;obtain⟨A,G,H⟩:=h1 ρ a w h u;obtain⟨B,I,K⟩:=h2 ρ a w h u;obtain⟨C,L,M⟩:=h3 ρ a w h u;obtain⟨D,N,P⟩:=h4 ρ a w h u;refine⟨_,HS F4 E G I L N,_,rfl,ZC.C1 hR h ?_ hn ZW⟩;simp only[Slot.ok];exact⟨[z,A,B,C,D],rfl,by simp only[aX];exact⟨z,_,rfl,b0,A,_,rfl,H,B,_,rfl,K,C,_,rfl,M,D,_,rfl,P,rfl⟩⟩
end
end Go.Sw
namespace Go.Sw
open Go Go.RowKit
def Li(g:List (Nat×Slot))(o:aAi):List Nat:=o.op.operands.toList.flatMap fun x=>match dH g x with | some s=>s.ZR | none=>[]
structure Loc (ops:Array aAi) (o:aAi) (σ0 O:AS):Prop where
 g:∀u∈looks ops o,lk O.g u=lk σ0.g u
 d:∀l∈Li σ0.g o,aY O.d l=aY σ0.d l
section
variable {F:YP}{ops:Array aAi}{o:aAi}{σ0 O:AS}
theorem Loc.ev(h:Loc ops o σ0 O){x:aAc}(hx:x∈o.op.operands):dH O.g x=dH σ0.g x:=by
 cases x with
 |tmp u=>exact h.g u (by simp only[looks,S9,aD7];exact .inl ⟨_,by simpa using hx,by simp[rd]⟩)
 |const u=>rfl
 |global g=>rfl
 |func f=>rfl
theorem Loc.G6(h:Loc ops o σ0 O){x:aAc}{s:Slot}{l:Nat}(hx:x∈o.op.operands)(hs:dH σ0.g x=some s)(hl:l∈s.ZR):aY O.d l=aY σ0.d l:=
 h.d l (aD7.2 ⟨x,by simpa using hx,by rw[hs];exact hl⟩)
theorem QQ{s:Slot}{new:List (Nat×XB)}(h:JO F o σ0 s new)(hl:Loc ops o σ0 O):JO F o O s new:=fun ρ S a w K=>
 h ρ S a w ⟨K.low,fun x u s z=>K.slot x u s (by rw[hl.ev u];exact z),fun x u s z i A B C=>K.G6 x u s (by rw[hl.ev u];exact z) i A B (by rw[hl.G6 u z A];exact C)⟩
theorem QR{b:Bool}(h:GK ops σ0.g o b)(hl:Loc ops o σ0 O):GK ops O.g o b:=by
 unfold GK at h ⊢;split
 ·rename_i z;rw[z] at h;exact h
 ·rename_i j F z;rw[z] at h;have B:∀t,(ops[j]?).bind (·.dst)=some t->lk O.g t=lk σ0.g t:=fun t C=>hl.g t (by simp[looks,z,C]);rcases h with⟨t,x,u,A,D⟩|⟨E,t,u,A⟩
  ·exact .inl ⟨t,x,u,by rw[B t u];exact A,D⟩
  ·exact .inr ⟨E,t,u,by rw[B t u];exact A⟩
end
structure Itm where
 s:Slot
 nw:List (Nat×XB)
 fr:Bool
 rl:List Nat
def Yt(ops:Array aAi)(ms:List Nat):Bool:=Nat.beq ms.length ops.size && (List.range ops.size).all fun i=>match ops[i]? with
 |none=>false
 |some o=>Nat.beq (ms.getD i 0) ((Mu o).foldl (fun m j=>m ||| 1 <<< j ||| ms.getD j 0) 0)
inductive oj (ops:Array aAi):Nat->Nat->Prop
 |one {i j:Nat} {o:aAi}:ops[i]? =some o->j∈Mu o->oj ops i j
 |up {i k j:Nat} {o:aAi}:ops[i]? =some o->k∈Mu o->oj ops k j->oj ops i j
theorem oj.down{ops:Array aAi}{L:Nat->Bool}(h:HG ops L):∀{i j:Nat},oj ops i j->L i=true->L j=true:=by
 intro i j A
 induction A with
 |one z B=>exact fun u=>h _ _ u z _ B
 |up z C _ D=>exact fun u=>D (h _ _ u z _ C)
theorem Hu{ms:List Nat}{b:Nat}:∀{l:List Nat} {m:Nat},(l.foldl (fun m j=>m ||| 1 <<< j ||| ms.getD j 0) m).testBit b=true->m.testBit b=true\/∃j∈l,j=b\/(ms.getD j 0).testBit b=true
 | [],m,h=> .inl h
 |j::l,m,h=>by
  rw[Z0] at h;rcases Hu (l:=l) h with h |⟨q,u,h⟩
  ·rw[Nat.testBit_or,Nat.testBit_or,aCi,aCi] at h;rcases h with (h | h) | h
   ·exact .inl h
   ·refine .inr ⟨j,dg,.inl ?_⟩;rw[Nat.one_shiftLeft,Nat.testBit_two_pow] at h;simpa using h
   ·exact .inr ⟨j,dg,.inr h⟩
  ·exact .inr ⟨q,cz _ u,h⟩
theorem Hv{ops:Array aAi}(hb:Dm ops=true){i j:Nat}{o:aAi}(ho:ops[i]? =some o)(hj:j∈Mu o):j<i:=by
 have u:i<ops.size:=by
  rcases R8 i ops.size with h | h
  ·exact h
  ·simp[aBv h] at ho
 have:=y8.1 hb i (ny.2 u);simp only[ho] at this;simpa using y8.1 this j hj
theorem MT{ops:Array aAi}{ms:List Nat}(hb:Dm ops=true)(hm:Yt ops ms=true):∀i j,(ms.getD i 0).testBit j=true->oj ops i j:=by
 simp only[Yt,K0,y8] at hm;obtain⟨A,hm⟩:=hm;have A:=D6 A;intro i
 induction i using Nat.strongRecOn with
 |_ i D=>
  intro j h;rcases R8 i ops.size with C | E
  ·have B:=hm i (ny.2 C);have u:ops[i]? =some ops[i]:=aBt C;simp only[u] at B;rw[D6 B] at h;rcases Hu h with h |⟨q,z,rfl | h⟩
   ·simp at h
   ·exact .one u z
   ·exact .up u z (D q (Hv hb u z) j h)
  ·rw[V7,dc (by omega)] at h;simp at h
theorem oj.lt{ops:Array aAi}(hb:Dm ops=true):∀{i j:Nat},oj ops i j->j<i:=by
 intro i j h
 induction h with
 |one u z=>exact Hv hb u z
 |up u A _ B=>exact Nat.lt_trans B (Hv hb u A)
def Hw(ops:Array aAi)(n:Nat)(ms:List Nat):Bool:=
 (List.range ops.size).all fun i=>
  match ops[i]? with
  |none=>false
  |some o=>
   if i<n then
    (match o.dst with
     |none=>true
     |some t=>(List.range n).all fun j=>
       match ops[j]? with
       |none=>false
       |some h=>(j==i || h.dst != some t) && (!(looks ops h).contains t || (ms.getD j 0).testBit i || (ms.getD i 0).testBit j))
   else (List.range i).all fun j=>(ms.getD i 0).testBit j
def Bn(dst:Nat->Option Tmp)(sl:Nat->Slot)(g:List (Nat×Slot)):Nat->(Nat->Bool)->List (Nat×Slot)
 | 0,_=>g
 |m+1,L=>bif L m then iV (dst m) (sl m) (Bn dst sl g m L) else Bn dst sl g m L
section
variable {dst:Nat->Option Tmp}{sl:Nat->Slot}{g:List (Nat×Slot)}{nw:Nat->List (Nat×XB)}{d:List (Nat×XB)}
theorem Hx{t:Option Tmp}{s:Slot}{g:List (Nat×Slot)}{u:Nat}:lk (iV t s g) u=if t=some u then some s else lk g u:=by
 cases t with
 |none=>simp[iV]
 |some t=>simp only[iV,mN,E4]
theorem Ev{u:Nat}{L L':Nat->Bool}:∀{m:Nat},(∀i,i<m->dst i=some u->L i=L' i)->lk (Bn dst sl g m L) u=lk (Bn dst sl g m L') u
 | 0,_=>rfl
 |m+1,h=>by
  have A:=Ev (m:=m) (fun i B=>h i (by omega));simp only[Bn];by_cases z:dst m=some u
  ·rw[h m (by omega) z];cases L' m<;>simp[Hx,z,A]
  ·cases L m<;>cases L' m<;>simp[Hx,z,A]
theorem HT{u j:Nat}{L:Nat->Bool}(hj:dst j=some u)(hL:L j=true):∀{m:Nat},j<m->(∀i,i<m->i≠j->dst i≠some u)->lk (Bn dst sl g m L) u=some (sl j)
 | 0,h,_=>by omega
 |m+1,h,A=>by
  simp only[Bn];by_cases z:j=m
  ·subst z;rw[hL];simp[Hx,hj]
  ·have B:=HT (m:=m) hj hL (by omega) (fun i C=>A i (by omega));have:=A m (by omega) (kq z);cases L m<;>simp[Hx,this,B]
theorem Sz{y:Nat×Slot}{L:Nat->Bool}:∀{m:Nat},y∈Bn dst sl g m L->y∈g\/∃i,i<m/\L i=true/\y.2=sl i
 | 0,h=> .inl h
 |m+1,h=>by
  simp only[Bn] at h;cases hL:L m with
  |false=>
   rw[hL] at h;rcases Sz (m:=m) h with h |⟨i,z,u⟩
   ·exact .inl h
   ·exact .inr ⟨i,by omega,u⟩
  |true=>
   rw[hL] at h;simp only[YX] at h;have:y∈Bn dst sl g m L\/y.2=sl m:=by
    cases hd:dst m with
    |none=>rw[hd] at h;exact .inl h
    |some t=>
     rw[hd] at h;rcases B1.1 h with rfl | h
     ·exact .inr rfl
     ·exact .inl h
   rcases this with h | h
   ·rcases Sz (m:=m) h with h |⟨i,z,u⟩
    ·exact .inl h
    ·exact .inr ⟨i,by omega,u⟩
   ·exact .inr ⟨m,by omega,hL,h⟩
end
theorem St.congr{F:YP}{O O':AS}{a:aAm}{w:aAa}(hg:∀u,lk O'.g u=lk O.g u)(hd:∀l,aY O'.d l=aY O.d l)(h:St F O a w):St F O' a w:=by
 obtain⟨⟨ρ,B,C⟩,D,E⟩:=h;have z:∀l en,aY O.d l=some en↔aY O'.d l=some en:=fun l en=>by rw[hd]
 exact⟨⟨ρ,B.congr z,fun t s A=>by rw[<-Un.congr z];exact C t s (by rw[<-hg];exact A)⟩,D,E⟩
section
variable {F:YP}{ops:Array aAi}
theorem Gq{dst:Nat->Option Tmp}{sl:Nat->Slot}{g:List (Nat×Slot)}{L:Nat->Bool}{m:Nat}:∀{n:Nat},m<=n->(∀i,m<=i->i<n->L i=false)->Bn dst sl g n L=Bn dst sl g m L
 | 0,h,_=>by
  have:m=0:=by omega
  subst this;rfl
 |n+1,h,z=>by
  rcases R8 n m with u | u
  ·have:m=n+1:=(by omega);subst this;rfl
  ·simp only[Bn,z n u (by omega),pF];exact Gq u fun i A B=>z i A (by omega)
theorem Jm{dst:Nat->Option Tmp}{sl:Nat->Slot}{g:List (Nat×Slot)}{L:Nat->Bool}:∀{m:Nat},Bn dst sl g (m+1) L=Bn (fun i=>dst (i+1)) (fun i=>sl (i+1)) (bif L 0 then iV (dst 0) (sl 0) g else g) m (fun i=>L (i+1))
 | 0=>rfl
 |m+1=>by rw[Bn,Jm (m:=m)];rfl
end
end Go.Sw
namespace Go.Sw
open Go Go.RowKit
section
variable {F:YP}{ops:Array aAi}{os:List aAi}{O O':AS}{its:List Itm}{s s0:Slot}{d:Option Tmp}{pb:Option Nat}{ty:aAb}{p:String}{af:Array Edge}{gd:Option (Nat×Bool)}{x y:aAc}
end
end Go.Sw
namespace Go.Sw
open Go Go.RowKit
def Wr.raw:Wr aAd where
 n:=1
 agg:=false
 ok x _ _ cs:=cs=[x]/\x.oneCell'=true
 len h:=by rw[h.1];rfl
 one _:=rfl
 cell h c hc:=by rw[h.1] at hc;simp at hc;subst hc;exact h.2
 mono h _:=h
def p4{α:Type}(T:aAb)(e:Wr α)(xs:List α)(S:Nat->Prop)(w:aAa)(v:aAd):Prop:=
 (xs=[]/\v= .slice none 0 0)\/∃b cap pre cs post,v= .slice (some ⟨b,pre.length,none⟩) xs.length cap/\
   w.heap[b]? =some (.cells (pre++(cs++post)).toArray T (0,0))/\e.j7 xs S w cs/\xs.length<=cap/\cap*e.n<=cs.length+post.length/\xs.length<=140737488355328
theorem p4.mono{α:Type}{T:aAb}{e:Wr α}{xs:List α}{S S':Nat->Prop}{w w':aAa}{v:aAd}(h:p4 T e xs S w v)(k:Ext S S' w w')(hb:∀b,j1 v=some b->w'.heap[b]? =w.heap[b]?):p4 T e xs S' w' v:=by
 rcases h with h |⟨b,z,A,B,C,u,D,E,F⟩
 ·exact .inl h
 ·exact .inr ⟨b,z,A,B,C,u,by rw[hb b (by rw[u];rfl)];exact D,Wr.XF E k,F⟩
theorem p4.slice{α:Type}{T:aAb}{e:Wr α}{xs:List α}{S:Nat->Prop}{w:aAa}{v:aAd}(h:p4 T e xs S w v):∃a c,v= .slice a xs.length c:=by
 rcases h with⟨rfl,rfl⟩|⟨b,z,A,B,C,u,_⟩
 ·exact⟨none,0,rfl⟩
 ·exact⟨_,_,u⟩
theorem Core.ow{F:YP}{d d':List (Nat×XB)}{ρ ρ':Nat->LV}{w:aAa}(hc:Core F d ρ w)
  (hU:∀l en b,aY d' l=some en->qX (ρ' l) b->∃l0 j6,aY d l0=some j6/\qX (ρ l0) b)
  (F6:∀i j en en' b,aY d' i=some en->aY d' j=some en'->qX (ρ' i) b->qX (ρ' j) b->i=j)
  (E0:Ext (Un F.S0 ρ d) (Un F.S0 ρ' d') w w->∀l en,aY d' l=some en->en.ok ρ' (Un F.S0 ρ' d') w (ρ' l)):
  Core F d' ρ' w/\Ext (Un F.S0 ρ d) (Un F.S0 ρ' d') w w:=by
 have B:Ext (Un F.S0 ρ d) (Un F.S0 ρ' d') w w:=⟨ZY _,fun k _ C=>⟨rfl,fun h=>C (by
  rcases h with h |⟨l,en,D,E⟩
  ·exact .inl h
  ·obtain⟨l0,j6,u,z⟩:=hU l en k D E
   exact .inr ⟨l0,j6,u,z⟩)⟩⟩
 refine⟨⟨hc.low,hc.size,hc.frame,hc.os,hc.tape,hc.output,E0 B,fun i en b h A=>?_,F6,fun i en b h A=>?_⟩,B⟩
 ·obtain⟨l0,j6,u,z⟩:=hU i en b h A;exact hc.fresh l0 j6 b u z
 ·obtain⟨l0,j6,u,z⟩:=hU i en b h A;exact hc.apart l0 j6 b u z
structure Rws {α:Type} (T2:aAb) (e:Wr α) (xss:List (List α)) (o:Option Nat) (S:Nat->Prop) (w:aAa) (x:Nat->Prop) (b0:Option Nat) (hs:List aAd):Prop where
 len:hs.length=xss.length
 ok:∀j xs h,o≠some j->xss[j]? =some xs->hs[j]? =some h->p4 T2 e xs S w h
 own:∀j h k,o≠some j->hs[j]? =some h->j1 h=some k->x k/\b0≠some k
 inj:∀j j' h h' k,o≠some j->o≠some j'->hs[j]? =some h->hs[j']? =some h'->j1 h=some k->j1 h'=some k->j=j'
section
variable {F:YP}{O:AS}{pb:Option Nat}{s:Slot}{d:Option Tmp}{ty:aAb}{p:String}{af:Array Edge}{gd:Option (Nat×Bool)}{x y:aAc}{α:Type}{e:Wr α}{T T2 U:aAb}{xss:List (List α)}{i j:Nat}
theorem Hy{dd:List (Nat×XB)}{l k:Nat}{en en':XB}(h:aY ((k,en')::dd) l=some en):(l=k/\en=en')\/(l≠k/\aY dd l=some en):=by
 rw[cN] at h;split at h
 ·rename_i u;cases h;exact .inl ⟨u.symm,rfl⟩
 ·rename_i u;exact .inr ⟨fun e=>u e.symm,h⟩
theorem Nf{v:aAd}{x:Nat->Prop}{b:Nat}:qX ⟨v,x⟩ b↔j1 v=some b\/x b:=Iff.rfl
end
end Go.Sw
namespace Go.Sw
open Go Go.RowKit
theorem Core.step{F:YP}{d d':List (Nat×XB)}{ρ ρ':Nat->LV}{w w':aAa}(hc:Core F d ρ w){c:Option Nat}(fq:w7 c w w')(r6:∀b,c=some b->∃l en,aY d l=some en/\qX (ρ l) b)
  (hU:∀l en b,aY d' l=some en->qX (ρ' l) b->(w.heap.size<=b/\b<w'.heap.size)\/∃l0 j6,aY d l0=some j6/\qX (ρ l0) b)
  (F6:∀i j en en' b,aY d' i=some en->aY d' j=some en'->qX (ρ' i) b->qX (ρ' j) b->i=j)
  (E0:Ext (Un F.S0 ρ d) (Un F.S0 ρ' d') w w'->∀l en,aY d' l=some en->en.ok ρ' (Un F.S0 ρ' d') w' (ρ' l)):
  Core F d' ρ' w'/\Ext (Un F.S0 ρ d) (Un F.S0 ρ' d') w w':=by
 have E:Ext (Un F.S0 ρ d) (Un F.S0 ρ' d') w w':=⟨fq.size,fun k C G=>⟨fq.other k C (fun e=>G (by obtain⟨l,en,A,B⟩:=r6 k e.symm;exact .inr ⟨l,en,A,B⟩)),fun h=>G (by
  rcases h with h |⟨l,en,A,B⟩
  ·exact .inl h
  ·rcases hU l en k A B with h |⟨l0,j6,u,z⟩
   ·omega
   ·exact .inr ⟨l0,j6,u,z⟩)⟩⟩
 refine⟨⟨hc.low,ik hc.size fq.size,fun k C H=>?_,fq.os.trans hc.os,fq.tape.trans hc.tape,fq.output.trans hc.output,E0 E,fun i en b h D=>?_,F6,fun i en b h D=>?_⟩,E⟩
 ·rw[fq.other k (X0 C hc.size) (fun e=>?_)]
  ·exact hc.frame k C H
  ·obtain⟨l,en,A,B⟩:=r6 k e.symm;rcases (hc.fresh l en k A B).1 with h | h
   ·omega
   ·exact H h
 ·rcases hU i en b h D with u |⟨l0,j6,u,z⟩
  ·exact⟨.inl (ik hc.size u.1),u.2⟩
  ·exact⟨(hc.fresh l0 j6 b u z).1,X0 (hc.fresh l0 j6 b u z).2 fq.size⟩
 ·rcases hU i en b h D with u |⟨l0,j6,u,z⟩
  ·intro I;have:=hc.low b I;have:=hc.size;omega
  ·exact hc.apart l0 j6 b u z
section
variable {F:YP}{O:AS}{pb:Option Nat}{s:Slot}{d:Option Tmp}{ty:aAb}{p:String}{af:Array Edge}{gd:Option (Nat×Bool)}{x y z:aAc}{α:Type}{e:Wr α}{T T2 U:aAb}{xss:List (List α)}{i j m:Nat}
theorem BL{xs ys:List α}{lo hi:Int}{S:Nat->Prop}{w:aAa}{v:aAd}{a:Option aAk}{cap:Nat}{ρ:Nat->LV}(hs:sub xs lo hi=some ys)(h:p4 T e xs S w v)(hv:v= .slice a xs.length cap)(hρ:(ρ i).v=v):
  (Slot.sub i (lo.toNat*e.n) (hi.toNat - lo.toNat)).ok ρ S w (.slice (if cap=lo.toNat then a else a.map (·.add (lo.toNat*e.n))) (hi.toNat - lo.toNat) (cap - lo.toNat)):=by
 obtain⟨E,F,G,_⟩:=gW hs;have D:xs.length<=cap:=by
  rcases h with⟨rfl,rfl⟩|⟨b,z,A,B,C,rfl,_,_,H,_⟩
  ·simp
  ·simp only[Value.slice.injEq] at hv;omega
 simp only[Slot.ok];rw[hρ,hv];refine⟨⟨_,_,_,rfl⟩,cap - lo.toNat,if cap=lo.toNat then 0 else lo.toNat*e.n,by omega,?_,?_⟩
 ·split
  ·right;omega
  ·exact .inl rfl
 ·split
  ·cases a with
   |none=>rfl
   |some u=>
    have:u.spot=none:=by
     rcases h with⟨rfl,rfl⟩|⟨b,z,A,B,C,rfl,_⟩
     ·cases hv
     ·simp only[Value.slice.injEq,E4] at hv;rw[<-hv.1]
    obtain⟨b,o,q⟩:=u;simp only at this;subst this;rfl
  ·cases a with
   |none=>rfl
   |some u=>
    have:u.spot=none:=by
     rcases h with⟨rfl,rfl⟩|⟨b,z,A,B,C,rfl,_⟩
     ·cases hv
     ·simp only[Value.slice.injEq,E4] at hv;rw[<-hv.1]
    obtain⟨b,o,q⟩:=u;simp only at this;subst this;simp[Up,Addr.add_lit]
theorem Vb{xs:List α}{xs':Array aAc}{ρ:Nat->LV}{S a w}(K:B3 O xs' ρ S a w)(hm:x∈xs')(hx:dH O.g x=some (.ref i))(he:aY O.d i=some (.arr T e xs)):
  ∃ad cap,a.eval x= .slice ad xs.length cap/\xs.length<=cap/\(ρ i).v= .slice ad xs.length cap/\p4 T e xs S w (ρ i).v:=by
 obtain⟨A,h,_⟩:=yW K hm hx he;have h:p4 T e xs S w (ρ i).v:=h;obtain⟨ad,cap,u⟩:=h.slice;refine⟨ad,cap,by rw[A,u],?_,u,h⟩;rcases h with⟨rfl,z⟩|⟨b,B,C,D,E,z,_,_,F,_⟩
 ·simp
 ·rw[u] at z;simp only[Value.slice.injEq] at z;omega
theorem MU{xs ys:List α}{hi:Int}{k':aAg}{E:aAb}(hs:sub xs 0 hi=some ys)(hx:dH O.g x=some (.ref i))(he:aY O.d i=some (.arr T e xs))(hz:dH O.g z=some (.v (Wr.int k') hi))
  (hU:∀w,(underlying U).run F.P w= .ok (.slice E) w) (hE:∀w,(sizeOf E).run F.P w= .ok e.n w):JO F ⟨d,.slice U x none (some z) none,ty,p,af,gd⟩ O (.sub i ((0:Int).toNat*e.n) (hi.toNat - (0:Int).toNat)) []:=by
 intro ρ S a w K;obtain⟨D,u,A,G,B,C⟩:=Vb K (x:=x) (by simp[Op.operands]) hx he;have h:=(fY K (x:=z) (by simp[Op.operands]) hz).1;obtain⟨H,s1,s2,_⟩:=gW hs;refine XC.value (w':=w) ?_ (ZC.same (BL hs C B rfl));simp[execOp,Instr.sliceAt,Instr.slice,A,h,hU,hE,Hs s1 (show hi<=(u:Int) by omega)]
theorem Lx{xs ys:List α}{lo:Int}{k:aAg}{E:aAb}(hs:sub xs lo (xs.length:Int)=some ys)(hx:dH O.g x=some (.ref i))(he:aY O.d i=some (.arr T e xs))(hy:dH O.g y=some (.v (Wr.int k) lo))
  (hU:∀w,(underlying U).run F.P w= .ok (.slice E) w) (hE:∀w,(sizeOf E).run F.P w= .ok e.n w):JO F ⟨d,.slice U x (some y) none none,ty,p,af,gd⟩ O (.sub i (lo.toNat*e.n) ((xs.length:Int).toNat - lo.toNat)) []:=by
 intro ρ S a w K;obtain⟨C,D,u,G,z,A⟩:=Vb K (x:=x) (by simp[Op.operands]) hx he;have h:=(fY K (x:=y) (by simp[Op.operands]) hy).1;obtain⟨B,s1,s2,_⟩:=gW hs;refine XC.value (w':=w) ?_ (ZC.same (BL hs A z rfl));simp[execOp,Instr.sliceAt,Instr.slice,u,h,hU,hE,Dp B s1]
end
end Go.Sw
namespace Go.Sw
open Go Go.RowKit
section
variable {F F':YP}{O:AS}{pb:Option Nat}{s:Slot}{d:Option Tmp}{ty:aAb}{p:String}{af:Array Edge}{gd:Option (Nat×Bool)}{x y z:aAc}
theorem HU{P:aAe}{w:aAa}{U:aAb}{a c e:List aAd}{n:Nat}{ag:Bool}(hA:∀w,(isAgg U).run P w= .ok ag w)(hS:∀w,(sizeOf U).run P w= .ok n w)(hl:c.length=n)(h1:ag=false->n=1):
  (part U (a++(c++e)).toArray a.length).run P w= .ok (if ag then .agg c.toArray else c.headD undef) w:=by
 unfold part;simp only[Sem.run_bind,hA,Result.andThen_ok];cases ag with
 |true=>
  simp only[r7,Sem.run_bind,hS,Result.andThen_ok,Sem.run_pure];have:(a++(c++e)).toArray.extract a.length (a.length+n)=c.toArray:=by
   subst hl;rw[List.extract_toArray];congr 1;simp[List.extract]
  rw[this]
 |false=>
  have h:=h1 rfl;rw[h] at hl;obtain⟨v,rfl⟩:=aCf.1 hl;simp
theorem Ew{fn:Func}{XJ:List (Nat×XB)}(hF:al F F')(F4:fn.results= #[])(hn:G0 XJ O.d):XQ F' O (Ab F fn (.XU []) XJ) .normal:=
 fun a w h=>HN hF F4 hn a w h
theorem Z.n7{u:aAd}(h:u.oneCell'=true):∀S w,(Wr.n7 u h).ok () S w [u]:=fun _ _=>rfl
end
end Go.Sw
namespace Go.Sw
open Go Go.RowKit
def Hz{α:Type}(e:Wr α):Wr (List α) where
 n:=1
 agg:=false
 ok xs S w cs:=(Wr.sl e).ok xs S w cs/\∀a l c,cs=[.slice a l c]->l=c
 len h:=(Wr.sl e).len h.1
 one _:=rfl
 cell h:=(Wr.sl e).cell h.1
 mono h k:=⟨(Wr.sl e).mono h.1 k,h.2⟩
theorem MV{α:Type}{e:Wr α}{xs:List α}{S w u}(h:(Hz e).val xs S w u):(Wr.sl e).val xs S w u/\∀a l c,u= .slice a l c->l=c:=by
 obtain⟨F,⟨C,G⟩,rfl⟩:=h;refine⟨⟨F,C,rfl⟩,?_⟩;obtain⟨a,H,D,_⟩:=C;intro z A c2 B;rw[D] at B;have E:(Value.slice a xs.length H)= .slice z A c2:=B;exact G z A c2 (by rw[D,E])
section
variable {F:YP}{O:AS}{d:Option Tmp}{ty:aAb}{p:String}{af:Array Edge}{gd:Option (Nat×Bool)}{x y:aAc}
theorem BM{α:Type}{e:Wr α}{U E:aAb}{len:Nat}{z:aAd}{ps:List (Nat×aAc)}{zs:List α}(hU:∀w,(underlying U).run F.P w= .ok (.slice E) w)(hS:∀w,(sizeOf E).run F.P w= .ok e.n w)(hz:∀w,(zeroValue E).run F.P w= .ok z w)
  (hle:Nat.ble (len*e.n) 16777216=true) (hl:ps.length=len) (ae:zs.length=len) (hb:Nat.ble len 16777216=true) (he:H4 O e 0 ps zs):JO F ⟨d,.buildSlice U len ps.toArray,ty,p,af,gd⟩ O (.v (Hz e) zs) []:=by
 intro ρ S a w K;obtain⟨u,M,N⟩:=Sn (d:=d) (ty:=ty) (p:=p) (af:=af) (gd:=gd) hU hS hz hle hl he K;have A:=lM w (.cells u.toArray E);have C:Ext S (Un S ρ []) w (w.alloc (.cells u.toArray E)):=rQ A fun k _ h=>by
  rcases h with h |⟨i,T,h,_⟩
  ·exact h
  ·simp[aY] at h
 refine XC.value N ⟨ρ,fun _ _=>rfl,A,?_,⟨fun _ _ h=>by simp[aY] at h,fun _ _ _ h=>by simp[aY] at h,fun _ _ _ _ _ h=>by simp[aY] at h⟩⟩;simp only[Slot.ok];have hb:=E7 hb;have D:(Wr.sl e).val zs (Un S ρ []) (w.alloc (.cells u.toArray E)) (.slice (some ⟨w.heap.size,0,none⟩) len len):=by
  refine sP.2 ⟨_,len,by rw[ae],⟨by omega,by omega⟩,.inr ⟨w.heap.size,0,u,rfl,by simp,?_,Kr w u E,Wr.XF M C⟩⟩;rintro (h |⟨i,T,h,_⟩)
  ·have:=K.low _ h;omega
  ·simp[aY] at h
 obtain⟨Q,R,B⟩:=D;refine⟨Q,⟨R,fun H I c2 L=>?_⟩,B⟩;subst L;have G:(Value.slice (some ⟨w.heap.size,0,none⟩) len len)= .slice H I c2:=B;injection G with _ e1 e2
 omega
theorem Ly{α:Type}{e:Wr α}{xs ys zs:List α}{T U:aAb}{ti:TypeInfo}{zv:aAd}(ha:app xs ys=some zs)(j5:xs≠ [])(hx:dH O.g x=some (.v (Hz e) xs))(hy:Src O y e ys)
  (hU:∀w,(underlying U).run F.P w= .ok (.slice T) w) (hI:∀w,(typeInfo T).run F.P w= .ok ti w) (hS:∀w,(sizeOf T).run F.P w= .ok e.n w) (hz:ti.zero=some zv) (hzs:zv.cells.size=e.n) (ah:Nat.ble ti.bytes 4096=true):
  JO F ⟨d,.call ⟨.builtin .append,#[x,y],#[U,U]⟩,ty,p,af,gd⟩ O (.v (Wr.sl e) zs) []:=by
 obtain⟨aa,rfl⟩:=Ux ha;have ah:=E7 ah;intro ρ S a w K;have G:ti.size=e.n:=Lu hI hS;have H:=K.slot x (by simp[Op.operands,Call.operands]) _ hx;simp only[Slot.ok] at H;obtain⟨D,wh⟩:=MV H;obtain⟨a1,aj,E,⟨m9,ZG⟩,h2⟩:=sP.1 D;have tp:=wh _ _ _ E;subst tp;obtain⟨g,R,z,rfl,am,an,ab,V⟩:=h2.resolve_left j5;have ZW:=cR V;have I:∀q,q∈#[y]->q∈(Op.call ⟨.builtin .append,#[x,y],#[U,U]⟩).operands:=by
  intro q u;have S8:q=y:=by simpa using u
  subst S8;simp[Op.operands,Call.operands]
 obtain⟨X7,ad,c,h4,h5⟩:=hy ρ S a w ⟨K.low,fun q u s h=>K.slot q (I q u) s h,fun q u s h=>K.G6 q (I q u) s h⟩;have L:∀v w',(Builtin.append_ #[U,U] ty #[.slice (some ⟨g,R,none⟩) xs.length xs.length,.slice ad ys.length c]).run F.P w= .ok v w'->(execOp a.eval ⟨d,.call ⟨.builtin .append,#[x,y],#[U,U]⟩,ty,p,af,gd⟩).run F.P w= .ok (.value v) w':=by
  intro v w' h;simp[execOp,resolve,invoke,builtin,E,h4,h]
 have M:∀{w':aAa},qc ρ (Un S ρ []) w w' []:=⟨fun i Q h=>by simp[aY] at h,fun i Q b h=>by simp[aY] at h,fun i j Q ai b h=>by simp[aY] at h⟩;by_cases C:ys=[]
 ·subst C;refine XC.value (L _ w (tX hU hS (ZY _))) ⟨ρ,fun _ _=>rfl,Below.refl _ _,?_,M⟩;simp only[Slot.ok,cw,Un.none];rw[E] at D;exact D
 ·obtain⟨b,ac,A,rfl,hm,X⟩:=h5.resolve_left C;have ae:0<ys.length:=sb.2 C;have fo:=cR X;have kg:=grownCap_ge w (xs.length+ys.length) xs.length T
  have hr:=run_append_grow (P:=F.P) w U ty T ti zv (rC hU) (uM hI) hz ⟨g,R,none⟩ xs.length xs.length z (by rw[G];exact ZW) ab.cell ⟨b,ac,none⟩ ys.length c A (by rw[G];exact fo) hm.cell (by omega) (by omega) (growslice_fits (by omega) (by
   have:(xs.length+ys.length)*ti.bytes<=4294967296*4096:=aCu aa ah
   omega))
  obtain⟨w',B⟩:∃w',w'=w.drew.alloc (.cells (z.toArray++A.toArray++Builtin.zeroCells zv.cells (grownCap w (xs.length+ys.length) xs.length T - (xs.length+ys.length))) T (0,0)):=⟨_,rfl⟩;have N:Below w.heap.size w w':=by rw[B];exact(Below.refl _ w).drew.alloc (ZY _) _
  refine XC.value (L _ w' (by rw[B];exact hr)) ⟨ρ,fun _ _=>rfl,N,?_,M⟩;simp only[Slot.ok];have hE:Ext S (Un S ρ []) w w':=by rw[Un.none];exact rQ N fun _ _ h=>h
  refine sP.2 ⟨_,_,by rw[sM],⟨by rw[sM];exact kg,by rw[sM];omega⟩,.inr ⟨w.heap.size,0,z++A,rfl,?_,?_,?_,Wr.XF (gN V X) hE⟩⟩
  ·rw[B,World.size_alloc];exact Nat.lt_succ_self _
  ·rw[Un.none];intro h;have:=K.low _ h;omega
  ·have h6:w'.heap[w.heap.size]? =some (.cells ([]++((z++A)++(Builtin.zeroCells zv.cells (grownCap w (xs.length+ys.length) xs.length T - (xs.length+ys.length))).toList)).toArray T (0,0)):=by
    rw[B,show w.heap.size=w.drew.heap.size from rfl,heap_alloc_new];congr 2;apply Array.ext';simp
   have:=(XK.of_heap h6).sub;simpa using this
end
end Go.Sw
namespace Go.Sw
open Go Go.RowKit
section
variable {P:aAe}{α β:Type}
end
end Go.Sw
namespace Go.Sw
open Go Go.RowKit
section
variable {F:YP}{ops:Array aAi}{O O' σA:AS}
end
end Go.Sw
namespace Go.Sw
open Go Go.RowKit
structure l5 where
 s:Slot
 nw:List (Nat×XB)
 fr:List (Nat×XB)
 rl:List Nat
 dl:List Nat
inductive ZA (F:YP) (ops:Array aAi) (OK:List (Nat×XB)->Prop):List aAi->AS->List l5->AS->Prop
 |nil {O:AS}:ZA F ops OK [] O [] O
 |cons {o:aAi} {os:List aAi} {O O':AS} {s:Slot} {new:List (Nat×XB)} {h:List l5}:GK ops O.g o true->JO F o O s new->gS o.dst F.N=true->
   ZA F ops OK os ⟨iV o.dst s O.g,new++O.d⟩ h O'->ZA F ops OK (o::os) O (⟨s,new,new,Li O.g o,[]⟩::h) O'
 |left {o:aAi} {os:List aAi} {O O':AS} {h:List l5}:GK ops O.g o false->gS o.dst F.N=true->ZA F ops OK os ⟨iV o.dst .top O.g,O.d⟩ h O'->ZA F ops OK (o::os) O (⟨.top,[],[],Li O.g o,[]⟩::h) O'
 |pu {o:aAi} {os:List aAi} {O O':AS} {s:Slot} {h:List l5}:GK ops O.g o true->gS o.dst F.N=true->(∀d,OK d->JO F o ⟨O.g,d⟩ s [])->ZA F ops OK os ⟨iV o.dst s O.g,O.d⟩ h O'->ZA F ops OK (o::os) O (⟨s,[],[],[],[]⟩::h) O'
 |mv {o:aAi} {os:List aAi} {O O':AS} {s:Slot} {nw fr:List (Nat×XB)} {dl:List Nat} {h:List l5}:GK ops O.g o true->gS o.dst F.N=true->(∀σ2,Loc ops o O σ2->σ2.free fr=true->JM F o σ2 ⟨iV o.dst s σ2.g,nw++jC σ2.d dl⟩)->
   ZA F ops OK os ⟨iV o.dst s O.g,nw++jC O.d dl⟩ h O'->ZA F ops OK (o::os) O (⟨s,nw,fr,Li O.g o,dl⟩::h) O'
 |mvx {o:aAi} {os:List aAi} {O O':AS} {s:Slot} {nw fr:List (Nat×XB)} {dl ex:List Nat} {h:List l5}:GK ops O.g o true->gS o.dst F.N=true->(∀σ2,Loc ops o O σ2->(∀l∈ex,aY σ2.d l=aY O.d l)->σ2.free fr=true->JM F o σ2 ⟨iV o.dst s σ2.g,nw++jC σ2.d dl⟩)->
   ZA F ops OK os ⟨iV o.dst s O.g,nw++jC O.d dl⟩ h O'->ZA F ops OK (o::os) O (⟨s,nw,fr,Li O.g o++ex,dl⟩::h) O'
def QS(a b:l5):Bool:=(a.nw.map (·.1)++a.dl).all fun l=>(!b.rl.contains l && !b.dl.contains l) && b.nw.all fun y=> !Nat.beq y.1 l
def HV(its:List l5)(ms:List Nat):Bool:=
 (List.range its.length).all fun i=>(List.range its.length).all fun j=>Nat.beq i j || (ms.getD j 0).testBit i || (ms.getD i 0).testBit j ||
  (match its[i]?,its[j]? with | some a,some b=>QS a b | _,_=>true)
def HW(O:AS)(its:List l5)(ms:List Nat):Bool:=
 (List.range its.length).all fun j=>match its[j]? with
  |none=>true
  |some b=>b.fr.all fun x=>(O.g.all fun y=> !y.2.ZR.contains x.1) && (O.d.all fun y=> !Nat.beq y.1 x.1 && !y.2.ZR.contains x.1) &&
    (List.range its.length).all fun i=>Nat.beq i j || (ms.getD i 0).testBit j || (match its[i]? with | none=>true | some a=> !a.s.ZR.contains x.1 && a.nw.all fun y=> !Nat.beq y.1 x.1 && !y.2.ZR.contains x.1)
def Cg(nw:Nat->List (Nat×XB))(dl:Nat->List Nat)(d:List (Nat×XB)):Nat->(Nat->Bool)->List (Nat×XB)
 | 0,_=>d
 |m+1,L=>bif L m then nw m++jC (Cg nw dl d m L) (dl m) else Cg nw dl d m L
section
variable {nw:Nat->List (Nat×XB)}{dl:Nat->List Nat}{d:List (Nat×XB)}
theorem Ey{l:Nat}{L L':Nat->Bool}:∀{m:Nat},(∀i,i<m->(aY (nw i) l≠none\/l∈dl i)->L i=L' i)->aY (Cg nw dl d m L) l=aY (Cg nw dl d m L') l
 | 0,_=>rfl
 |m+1,h=>by
  have z:=Ey (m:=m) (fun i D=>h i (by omega));simp only[Cg];by_cases u:aY (nw m) l=none/\l∉dl m
  ·cases L m<;>cases L' m<;>simp[gO,u.1,qI,u.2,z]
  ·have C:aY (nw m) l≠none\/l∈dl m:=by
    by_cases A:aY (nw m) l=none
    ·by_cases B:l∈dl m
     ·exact .inr B
     ·exact absurd ⟨A,B⟩ u
    ·exact .inl A
   rw[h m (by omega) C];cases L' m<;>simp[gO,qI,z]
theorem HX{l j:Nat}{en:XB}{L:Nat->Bool}(hj:aY (nw j) l=some en)(hL:L j=true):∀{m:Nat},j<m->(∀i,j<i->i<m->L i=true->aY (nw i) l=none/\l∉dl i)->aY (Cg nw dl d m L) l=some en
 | 0,h,_=>by omega
 |m+1,h,B=>by
  simp only[Cg];by_cases C:j=m
  ·subst C;rw[hL];simp[gO,hj]
  ·have z:=HX (m:=m) hj hL (by omega) (fun i u A=>B i u (by omega));cases hLm:L m with
   |false=>simpa using z
   |true=>obtain⟨u,A⟩:=B m (by omega) (by omega) hLm;simp[gO,u,qI,A,z]
theorem Vc{l j:Nat}{L:Nat->Bool}(hj:aY (nw j) l=none)(hg:l∈dl j)(hL:L j=true):∀{m:Nat},j<m->(∀i,j<i->i<m->L i=true->aY (nw i) l=none/\l∉dl i)->aY (Cg nw dl d m L) l=none
 | 0,h,_=>by omega
 |m+1,h,B=>by
  simp only[Cg];by_cases C:j=m
  ·subst C;rw[hL];simp[gO,hj,qI,hg]
  ·have z:=Vc (m:=m) hj hg hL (by omega) (fun i u A=>B i u (by omega));cases hLm:L m with
   |false=>simpa using z
   |true=>obtain⟨u,A⟩:=B m (by omega) (by omega) hLm;simp[gO,u,qI,A,z]
theorem Ng{y:Nat×XB}{i:Nat}:∀{d:List (Nat×XB)},y∈wN d i->y∈d
 | [],h=>by simp[wN] at h
 | (j,u)::r,h=>by
  simp only[wN] at h;cases hb:Nat.beq j i with
  |true=>rw[hb] at h;exact cz _ (Ng h)
  |false=>
   rw[hb] at h;rcases B1.1 h with h | h
   ·rw[h];exact dg
   ·exact cz _ (Ng h)
theorem Qw{y:Nat×XB}{d:List (Nat×XB)}:∀{H:List Nat},y∈jC d H->y∈d
 | [],h=>h
 |_::H,h=>Qw (H:=H) (Ng h)
theorem Ta{y:Nat×XB}{L:Nat->Bool}:∀{m:Nat},y∈Cg nw dl d m L->y∈d\/∃i,i<m/\L i=true/\y∈nw i
 | 0,h=> .inl h
 |m+1,h=>by
  simp only[Cg] at h;cases hL:L m with
  |false=>
   rw[hL] at h;rcases Ta (m:=m) h with h |⟨i,z,u⟩
   ·exact .inl h
   ·exact .inr ⟨i,by omega,u⟩
  |true=>
   rw[hL] at h;rcases S9.1 h with h | h
   ·exact .inr ⟨m,by omega,hL,h⟩
   ·rcases Ta (m:=m) (Qw h) with h |⟨i,z,u⟩
    ·exact .inl h
    ·exact .inr ⟨i,by omega,u⟩
theorem Gr{L:Nat->Bool}{m:Nat}:∀{n:Nat},m<=n->(∀i,m<=i->i<n->L i=false)->Cg nw dl d n L=Cg nw dl d m L
 | 0,h,_=>by
  have:m=0:=by omega
  subst this;rfl
 |n+1,h,z=>by
  rcases R8 n m with u | u
  ·have:m=n+1:=(by omega);subst this;rfl
  ·simp only[Cg,z n u (by omega),pF];exact Gr u fun i A B=>z i A (by omega)
theorem Jn{L:Nat->Bool}:∀{m:Nat},Cg nw dl d (m+1) L=Cg (fun i=>nw (i+1)) (fun i=>dl (i+1)) (bif L 0 then nw 0++jC d (dl 0) else d) m (fun i=>L (i+1))
 | 0=>rfl
 |m+1=>by rw[Cg,Jn (m:=m)];rfl
end
section
variable {F:YP}{ops:Array aAi}{OK:List (Nat×XB)->Prop}
structure xn (F:YP) (ops:Array aAi) (OK:List (Nat×XB)->Prop) (dst:Nat->Option Tmp) (its:Nat->l5) (O:AS) (n:Nat) (i:Nat) (o:aAi):Prop where
 ok:gS o.dst F.N=true
 cs:(∃ex,(its i).rl=Li (Bn dst (fun i=>(its i).s) O.g n (fun k=>decide (k<i))) o++ex/\
  ((GK ops (Bn dst (fun i=>(its i).s) O.g n (fun k=>decide (k<i))) o true/\(its i).fr=(its i).nw/\(its i).dl=[]/\JO F o ⟨Bn dst (fun i=>(its i).s) O.g n (fun k=>decide (k<i)),Cg (fun i=>(its i).nw) (fun i=>(its i).dl) O.d n (fun k=>decide (k<i))⟩ (its i).s (its i).nw)\/
  (GK ops (Bn dst (fun i=>(its i).s) O.g n (fun k=>decide (k<i))) o false/\(its i).s= .top/\(its i).nw=[]/\(its i).dl=[])\/
  (GK ops (Bn dst (fun i=>(its i).s) O.g n (fun k=>decide (k<i))) o true/\
   ∀σ2,Loc ops o ⟨Bn dst (fun i=>(its i).s) O.g n (fun k=>decide (k<i)),Cg (fun i=>(its i).nw) (fun i=>(its i).dl) O.d n (fun k=>decide (k<i))⟩ σ2->(∀l∈ex,aY σ2.d l=aY (Cg (fun i=>(its i).nw) (fun i=>(its i).dl) O.d n (fun k=>decide (k<i))) l)->σ2.free (its i).fr=true->JM F o σ2 ⟨iV o.dst (its i).s σ2.g,(its i).nw++jC σ2.d (its i).dl⟩)))\/
  (GK ops (Bn dst (fun i=>(its i).s) O.g n (fun k=>decide (k<i))) o true/\(its i).nw=[]/\(its i).fr=[]/\(its i).dl=[]/\∀d,OK d->JO F o ⟨Bn dst (fun i=>(its i).s) O.g n (fun k=>decide (k<i)),d⟩ (its i).s [])
theorem ZA.len{os:List aAi}{O O':AS}{h:List l5}(hp:ZA F ops OK os O h O'):h.length=os.length:=by
 induction hp with
 |nil=>rfl
 |cons _ _ _ _ u=>simp[u]
 |left _ _ _ u=>simp[u]
 |pu _ _ _ _ u=>simp[u]
 |mv _ _ _ _ u=>simp[u]
 |mvx _ _ _ _ u=>simp[u]
theorem ZA.at{os:List aAi}{O O':AS}{h:List l5}(hp:ZA F ops OK os O h O'):
  O'.g=Bn (fun i=>(os[i]?).bind (·.dst)) (fun i=>(h.getD i ⟨.top,[],[],[],[]⟩).s) O.g os.length (fun _=>true)/\O'.d=Cg (fun i=>(h.getD i ⟨.top,[],[],[],[]⟩).nw) (fun i=>(h.getD i ⟨.top,[],[],[],[]⟩).dl) O.d os.length (fun _=>true)/\
  ∀i o,os[i]? =some o->xn F ops OK (fun i=>(os[i]?).bind (·.dst)) (fun i=>h.getD i ⟨.top,[],[],[],[]⟩) O os.length i o:=by
 have step:∀{u:aAi} {os:List aAi} {O O':AS} {h:List l5} {it:l5},
   (O'.g=Bn (fun i=>(os[i]?).bind (·.dst)) (fun i=>(h.getD i ⟨.top,[],[],[],[]⟩).s) (iV u.dst it.s O.g) os.length (fun _=>true)/\O'.d=Cg (fun i=>(h.getD i ⟨.top,[],[],[],[]⟩).nw) (fun i=>(h.getD i ⟨.top,[],[],[],[]⟩).dl) (it.nw++jC O.d it.dl) os.length (fun _=>true)/\
    ∀i o,os[i]? =some o->xn F ops OK (fun i=>(os[i]?).bind (·.dst)) (fun i=>h.getD i ⟨.top,[],[],[],[]⟩) ⟨iV u.dst it.s O.g,it.nw++jC O.d it.dl⟩ os.length i o)->
   xn F ops OK (fun i=>((u::os)[i]?).bind (·.dst)) (fun i=>(it::h).getD i ⟨.top,[],[],[],[]⟩) O (u::os).length 0 u->
   (O'.g=Bn (fun i=>((u::os)[i]?).bind (·.dst)) (fun i=>((it::h).getD i ⟨.top,[],[],[],[]⟩).s) O.g (u::os).length (fun _=>true)/\O'.d=Cg (fun i=>((it::h).getD i ⟨.top,[],[],[],[]⟩).nw) (fun i=>((it::h).getD i ⟨.top,[],[],[],[]⟩).dl) O.d (u::os).length (fun _=>true)/\
    ∀i o,(u::os)[i]? =some o->xn F ops OK (fun i=>((u::os)[i]?).bind (·.dst)) (fun i=>(it::h).getD i ⟨.top,[],[],[],[]⟩) O (u::os).length i o):=by
  rintro u os O O' h it ⟨Q,R,S⟩ T;refine⟨by rw[Q,H6,Jm];rfl,by rw[R,H6,Jn];rfl,fun i o E=>?_⟩;cases i with
  |zero=>simp at E;subst E;exact T
  |succ i=>
   have H:=S i o (by simpa using E);have L:Bn (fun i=>((u::os)[i]?).bind (·.dst)) (fun i=>((it::h).getD i ⟨.top,[],[],[],[]⟩).s) O.g (u::os).length (fun k=>decide (k<i+1))=
     Bn (fun i=>(os[i]?).bind (·.dst)) (fun i=>(h.getD i ⟨.top,[],[],[],[]⟩).s) (iV u.dst it.s O.g) os.length (fun k=>decide (k<i)):=by
    rw[H6,Jm];simp
   have M:Cg (fun i=>((it::h).getD i ⟨.top,[],[],[],[]⟩).nw) (fun i=>((it::h).getD i ⟨.top,[],[],[],[]⟩).dl) O.d (u::os).length (fun k=>decide (k<i+1))=
     Cg (fun i=>(h.getD i ⟨.top,[],[],[],[]⟩).nw) (fun i=>(h.getD i ⟨.top,[],[],[],[]⟩).dl) (it.nw++jC O.d it.dl) os.length (fun k=>decide (k<i)):=by
    rw[H6,Jn];simp
   refine⟨H.ok,?_⟩;rw[L,M];exact H.cs
 have A:∀{u:aAi} {os:List aAi} {O:AS} {h:List l5} {it:l5},Bn (fun i=>((u::os)[i]?).bind (·.dst)) (fun i=>((it::h).getD i ⟨.top,[],[],[],[]⟩).s) O.g (u::os).length (fun k=>decide (k<0))=O.g:=by
  intro u os O h it;rw[Gq (m:=0) (aEp _) (fun i _ _=>by simp)];rfl
 have B:∀{u:aAi} {os:List aAi} {O:AS} {h:List l5} {it:l5},Cg (fun i=>((it::h).getD i ⟨.top,[],[],[],[]⟩).nw) (fun i=>((it::h).getD i ⟨.top,[],[],[],[]⟩).dl) O.d (u::os).length (fun k=>decide (k<0))=O.d:=by
  intro u os O h it;rw[Gr (m:=0) (aEp _) (fun i _ _=>by simp)];rfl
 induction hp with
 |nil=>exact⟨rfl,rfl,fun i o h=>by simp at h⟩
 |cons g j d _ z=>
  rename_i o os O O' s I h _;refine step (it:=⟨s,I,I,Li O.g o,[]⟩) z ⟨d,?_⟩;rw[A,B];exact .inl ⟨[],by simp,.inl ⟨g,rfl,rfl,j⟩⟩
 |left g d _ z=>
  rename_i o os O O' h _;refine step (it:=⟨.top,[],[],Li O.g o,[]⟩) z ⟨d,?_⟩;rw[A,B];exact .inl ⟨[],by simp,.inr (.inl ⟨g,rfl,rfl,rfl⟩)⟩
 |pu g C U hp z=>
  rename_i o os O O' s h;refine step (it:=⟨s,[],[],[],[]⟩) z ⟨C,?_⟩;rw[A,B];exact .inr ⟨g,rfl,rfl,rfl,U⟩
 |mv g C G hp z=>
  rename_i o os O O' s nw D dl h;refine step (it:=⟨s,nw,D,Li O.g o,dl⟩) z ⟨C,?_⟩;rw[A,B];exact .inl ⟨[],by simp,.inr (.inr ⟨g,fun σ2 N _ P=>G σ2 N P⟩)⟩
 |mvx g C G hp z=>
  rename_i o os O O' s nw D dl K h;refine step (it:=⟨s,nw,D,Li O.g o++K,dl⟩) z ⟨C,?_⟩;rw[A,B];exact .inl ⟨K,rfl,.inr (.inr ⟨g,G⟩)⟩
theorem PV{id:Nat}{ops:Array aAi}{cs:List aAj}{O σ1 O':AS}{its:List l5}{Q:aAl->aAm->aAa->Prop}(OK:List (Nat×XB)->Prop)(n:Nat)(ms:List Nat)(hm:F.P.follows .mixedOrders=true)(hp:ZA F ops OK (ops.toList.take n) O its σ1)(ht:J F ops (ops.toList.drop n) σ1 O')
  (hn:Nat.ble n ops.size=true) (Y5:Dm ops=true) (hms:Yt ops ms=true) (dz:Hw ops n ms=true) (hcm:HV its ms=true) (re:HW O its ms=true) (hOK:∀L,OK (Cg (fun i=>(its.getD i ⟨.top,[],[],[],[]⟩).nw) (fun i=>(its.getD i ⟨.top,[],[],[],[]⟩).dl) O.d n L)) (k:W F cs O' Q):W F (.region id ops true::cs) O Q:=by
 intro a w hs;have hn:=E7 hn;obtain⟨l1,X9⟩:∃l1,l1=ops.toList.take n:=⟨_,rfl⟩;obtain⟨l2,P0⟩:∃l2,l2=ops.toList.drop n:=⟨_,rfl⟩;rw[<-X9] at hp;rw[<-P0] at ht;have N:ops.toList=l1++l2:=by rw[X9,P0];exact(db n ops.toList).symm
 have gz:l1.length=n:=by rw[X9,I8,ed];exact tx hn
 have bs:its.length=n:=by rw[hp.len,gz]
 obtain⟨s1,d1,ZM⟩:=hp.at;obtain⟨dst,wa⟩:∃dst:Nat->Option Tmp,dst=fun i=>(l1[i]?).bind (·.dst):=⟨_,rfl⟩;obtain⟨it,vw⟩:∃it:Nat->l5,it=fun i=>its.getD i ⟨.top,[],[],[],[]⟩:=⟨_,rfl⟩;rw[<-wa,gz] at ZM;rw[<-vw] at ZM;rw[<-wa,gz] at s1;rw[gz] at d1;have s1:σ1.g=Bn dst (fun i=>(it i).s) O.g n (fun _=>true):=by rw[s1,vw]
 have d1:σ1.d=Cg (fun i=>(it i).nw) (fun i=>(it i).dl) O.d n (fun _=>true):=by rw[d1,vw]
 have B4:ops.size=l1.length+l2.length:=by rw[<-ed,N,sM]
 have ey:∀i:Nat,ops[i]? =(l1++l2)[i]? :=fun i=>by rw[<-N];exact(Array.getElem?_toList).symm
 have a3:∀i,i<n->l1[i]? =ops[i]? :=fun i z=>by rw[ey,aBu (by omega)]
 have p8:∀i o,i<n->ops[i]? =some o->dst i=o.dst:=fun i o z C=>by rw[wa];show (l1[i]?).bind _=_;rw[a3 i z,C];rfl
 have vo:∀i,i<n->∃o,ops[i]? =some o:=fun i z=>⟨ops[i]'(by omega),aBt (by omega)⟩;have rk:=MT Y5 hms;have bg:∀i o,i<n->ops[i]? =some o->xn F ops OK dst it O n i o:=fun i o z C=>ZM i o (by rw[a3 i z];exact C);have ph:∀q,q<n->its[q]? =some (it q):=fun q hq=>by
  rw[vw];simp only[V7];rw[J0 (by omega)];rfl
 have a4:∀i j,i<n->j<n->i≠j->oj ops j i\/oj ops i j\/QS (it i) (it j)=true:=by
  intro i j z B R;have A:=y8.1 (y8.1 hcm i (ny.2 (by omega))) j (ny.2 (by omega));simp only[aCi] at A;rcases A with ((A | A) | A) | A
  ·exact absurd (D6 A) R
  ·exact .inl (rk _ _ A)
  ·exact .inr (.inl (rk _ _ A))
  ·refine .inr (.inr ?_);rw[ph i z,ph j B] at A;exact A
 have am:∀{a b:l5} {l:Nat},QS a b=true->(aY a.nw l≠none\/l∈a.dl)->l∉b.rl/\l∉b.dl/\∀y∈b.nw,y.1≠l:=by
  intro a b l h V;have N:l∈a.nw.map (·.1)++a.dl:=by
   rcases V with V | V
   ·obtain⟨e,he⟩:=Option.ne_none_iff_exists'.1 V;exact aDp _ (fx.2 ⟨_,mW he,rfl⟩)
   ·exact List.mem_append_right _ V
  have:=y8.1 h _ N;simp only[K0,tu,y8] at this;refine⟨fun E=>?_,fun E=>?_,fun y hy e=>?_⟩
  ·have D:=this.1.1;simp at D;exact D E
  ·have D:=this.1.2;simp at D;exact D E
  ·have D:=this.2 y hy;rw[e] at D;simp at D
 obtain⟨σL,me⟩:∃σL:(Nat->Bool)->AS,σL=fun L=>⟨Bn dst (fun i=>(it i).s) O.g n L,Cg (fun i=>(it i).nw) (fun i=>(it i).dl) O.d n L⟩:=⟨_,rfl⟩;have a5:∀i o t,i<n->ops[i]? =some o->o.dst=some t->∀j o',j<n->ops[j]? =some o'->(j=i\/o'.dst≠some t)/\(t∈looks ops o'->oj ops j i\/oj ops i j):=by
  intro i o t z C I j o' B S;have A:=y8.1 dz i (ny.2 (by omega));simp only[C,YC z,I] at A;have D:=y8.1 A j (ny.2 B);simp only[S,K0,aCi,tu] at D;obtain⟨G,h4⟩:=D;refine⟨G.imp (fun h=>by simpa using h) (fun h=>by simpa using h),fun E=>?_⟩;rcases h4 with (h4 | h4) | h4
  ·simp at h4;exact absurd E h4
  ·exact .inl (rk _ _ h4)
  ·exact .inr (rk _ _ h4)
 have a6:∀{i:Nat} {o:aAi},¬i<n->ops[i]? =some o->∀{j:Nat},j<i->oj ops i j:=by
  intro i o z C j B;have YI:i<ops.size:=by
   rcases R8 i ops.size with h | h
   ·exact h
   ·simp[aBv h] at C
  have A:=y8.1 dz i (ny.2 YI);simp only[C,XV z] at A;exact rk _ _ (y8.1 A j (ny.2 B))
 have a7:∀i o,i<ops.size->ops[i]? =some o->∀j∈Mu o,j<i:=fun i o _ C j B=>Hv Y5 C B;have bh:∀m o,n<=m->ops[m]? =some o->∀j∈Mu o,j<ops.size/\decide (j<m)=true:=by
  intro m o _ C j B;have YI:m<ops.size:=by
   rcases R8 m ops.size with h | h
   ·exact h
   ·simp[aBv h] at C
  have:=a7 m o YI C j B;exact⟨by omega,by simpa using this⟩
 have vx:∀L a w,St F (σL L) a w->(∀i,i<n->L i=true)->St F σ1 a w:=by
  intro L a w h u0;rw[me] at h;refine St.congr (fun u=>?_) (fun l=>?_) h
  ·rw[s1];exact Ev fun i z _=>by rw[u0 i z]
  ·rw[d1];exact Ey fun i z _=>by rw[u0 i z]
 have bi:∀L a w j o,HG ops L->St F (σL L) a w->j<n->ops[j]? =some o->L j=false->(∀i∈Mu o,L i=true)->∀K:aAm->aAa->Prop,
   (∀a' w',St F (σL fun i=>i==j || L i) a' w'->K a' w')->wpOpIn F.fe 0 F.P ops (Exit.then (run F.fe F.P Q cs) Q) j K a w:=by
  intro L a w j o wb h B C ac bb K hK;have hA:=bg j o B C;have a8:∀i,oj ops j i->L i=true:=by
   intro i z;cases z with
   |one S I=>rw[C] at S;cases S;exact bb _ I
   |up S I hr=>rw[C] at S;cases S;exact hr.down wb (bb _ I)
  have ab:∀i,L i=true->¬oj ops i j:=fun i z E=>by rw[E.down wb z] at ac;cases ac
  have xz:∀u∈looks ops o,lk (σL L).g u=lk (Bn dst (fun i=>(it i).s) O.g n (fun k=>decide (k<j))) u:=by
   intro u hu;rw[me];refine Ev fun i z I=>?_;obtain⟨oi,ae⟩:=vo i z;rw[p8 i oi z ae] at I;rcases (a5 i oi u z ae I j o B C).2 hu with A | A
   ·have:=A.lt Y5;rw[a8 i A];simpa using this
   ·have D:=A.lt Y5;have G:L i=false:=by
     cases M:L i with
     |false=>rfl
     |true=>exact absurd A (ab i M)
    rw[G];simp;omega
  obtain⟨σ0,bx,ay,ex,av,fp⟩:∃σ0:AS,σ0.g=Bn dst (fun i=>(it i).s) O.g n (fun k=>decide (k<j))/\Loc ops o σ0 (σL L)/\∃ex:List Nat,(∀l∈ex,aY (σL L).d l=aY σ0.d l)/\
    ((GK ops σ0.g o true/\(it j).fr=(it j).nw/\(it j).dl=[]/\JO F o σ0 (it j).s (it j).nw)\/(GK ops σ0.g o false/\(it j).s= .top/\(it j).nw=[]/\(it j).dl=[])\/
     (GK ops σ0.g o true/\∀σ2,Loc ops o σ0 σ2->(∀l∈ex,aY σ2.d l=aY σ0.d l)->σ2.free (it j).fr=true->JM F o σ2 ⟨iV o.dst (it j).s σ2.g,(it j).nw++jC σ2.d (it j).dl⟩)):=by
   rcases hA.cs with⟨ex,U4,fp⟩|⟨T,aj,ib,fo,a1⟩
   ·have I:∀l∈(it j).rl,aY (σL L).d l=aY (Cg (fun i=>(it i).nw) (fun i=>(it i).dl) O.d n (fun k=>decide (k<j))) l:=by
     intro l N;rw[me];refine Ey fun i z V=>?_;by_cases R:i=j
     ·subst R;rw[ac];simp
     ·rcases a4 i j z B R with A | A | A
      ·have:=A.lt Y5;rw[a8 i A];simpa using this
      ·have D:=A.lt Y5;have G:L i=false:=by
        cases M:L i with
        |false=>rfl
        |true=>exact absurd A (ab i M)
       rw[G];simp;omega
      ·exact absurd N (am A V).1
    exact⟨⟨Bn dst (fun i=>(it i).s) O.g n (fun k=>decide (k<j)),Cg (fun i=>(it i).nw) (fun i=>(it i).dl) O.d n (fun k=>decide (k<j))⟩,rfl,⟨xz,fun l N=>I l (by rw[U4];exact aDp _ N)⟩,ex,fun l N=>I l (by rw[U4];exact List.mem_append_right _ N),fp⟩
   ·exact⟨⟨Bn dst (fun i=>(it i).s) O.g n (fun k=>decide (k<j)),(σL L).d⟩,rfl,⟨xz,fun l _=>rfl⟩,[],fun l N=>rfl,.inl ⟨T,by rw[ib,aj],fo,by rw[aj];exact a1 _ (by rw[me,vw];exact hOK L)⟩⟩
  have a9:∀l,(aY (it j).nw l≠none\/l∈(it j).dl)->∀i,j<i->i<n->(i==j || L i)=true->aY (it i).nw l=none/\l∉(it i).dl:=by
   intro l N i Y0 z M;have R:i≠j:=(by omega);have bj:L i=true:=(by simpa[R] using M);rcases a4 j i B z (kq R) with A | A | A
   ·exact absurd A (ab i bj)
   ·have:=A.lt Y5;omega
   ·refine⟨?_,?_⟩
    ·cases hy:aY (it i).nw l with
     |none=>rfl
     |some e=>exact absurd rfl ((am (l:=l) A N).2.2 _ (mW hy))
    ·exact(am (l:=l) A N).2.1
  have nm:∀a' w',St F ⟨iV o.dst (it j).s (σL L).g,(it j).nw++jC (σL L).d (it j).dl⟩ a' w'->St F (σL fun i=>i==j || L i) a' w':=by
   intro a' w' h';rw[me] at h' ⊢;refine St.congr (fun u=>?_) (fun l=>?_) h'
   ·show lk (Bn _ _ _ _ _) u=lk (iV _ _ (Bn _ _ _ _ _)) u;rw[Hx];split
    ·rename_i I;refine HT (by rw[p8 j o B C];exact I) (by simp) B fun i z R E=>?_;obtain⟨oi,ae⟩:=vo i z;rw[p8 i oi z ae] at E;rcases (a5 j o u B C I i oi z ae).1 with A | A
     ·exact R A
     ·exact A E
    ·rename_i I;refine Ev fun i z E=>?_;by_cases R:i=j
     ·subst R;rw[p8 i o z C] at E;exact absurd E I
     ·simp[R]
   ·show aY (Cg _ _ _ _ _) l=aY (_++jC (Cg _ _ _ _ _) _) l;rw[gO];cases V:aY (it j).nw l with
    |some en=>exact HX V (by simp) B (a9 l (.inl (by rw[V];simp)))
    |none=>
     simp only[Option.none_or];rw[qI];by_cases T:l∈(it j).dl
     ·rw[YC T];exact Vc V T (by simp) B (a9 l (.inr T))
     ·rw[XV T];refine Ey fun i z E=>?_;by_cases R:i=j
      ·subst R;rcases E with E | E
       ·exact absurd V E
       ·exact absurd E T
      ·simp[R]
  have vy:AS.free (σL L) (it j).fr=true:=by
   refine y8.2 fun x V=>?_;have h0:=y8.1 re j (ny.2 (by omega));rw[ph j B] at h0;have A:=y8.1 h0 x V;simp only[K0,y8,aCi] at A;obtain⟨⟨A,D⟩,G⟩:=A;have h4:∀i,i<n->L i=true->(!(it i).s.ZR.contains x.1)=true/\∀y∈(it i).nw,(!Nat.beq y.1 x.1)=true/\(!y.2.ZR.contains x.1)=true:=by
    intro i z M;have X:=G i (ny.2 (by omega));rw[ph i z] at X;rcases X with (X | X) | X
    ·rw[D6 X,ac] at M;cases M
    ·exact absurd (rk _ _ X) (ab i M)
    ·simp only[K0,y8] at X;exact X
   rw[me];simp only[K0,y8];refine⟨fun y hy=>?_,fun y hy=>?_⟩
   ·rcases Sz hy with X |⟨i,z,M,e⟩
    ·exact A y X
    ·rw[e];exact(h4 i z M).1
   ·rcases Ta hy with X |⟨i,z,M,hy⟩
    ·exact D y X
    ·exact(h4 i z M).2 y hy
  have an:∀b,GK ops σ0.g o b->Region.wanted o (yielded ops a.tmps)=b:=by
   intro b T;obtain⟨⟨ρ,E,m7⟩,_,_⟩:=h;exact zW (QR T ay) fun t s _ ht=>m7 t s ht
  unfold wpOpIn;rw[C];rcases fp with⟨T,ib,fo,a1⟩|⟨T,bp,aj,fo⟩|⟨T,ap⟩
  ·simp only[an true T,r7];obtain⟨⟨ρ,E,m7⟩,hz,j4⟩:=h;refine(QQ a1 ay ρ _ a w (cK E m7 _)).wpIn fun v w' hr=>hK _ _ (nm _ _ ?_);rw[ib] at vy;have:=St.put E m7 hz j4 vy hA.ok hr;rw[fo];cases I:o.dst with
   |none=>rw[I] at this;exact this
   |some t=>rw[I] at this;exact this
  ·simp only[an false T,V6,r5];refine⟨fun _ _=>trivial,hK _ _ (nm _ _ ?_)⟩;obtain⟨⟨ρ,E,m7⟩,hz,j4⟩:=h;have:=St.put (s:= .top) (new:=[]) (v:=undef) (dst:=o.dst) E m7 hz j4 rfl hA.ok AU;rw[bp,aj,fo];cases I:o.dst with
   |none=>rw[I] at this;exact this
   |some t=>rw[I] at this;exact this
  ·simp only[an true T,r7];exact(ap (σL L) ay av vy a w h).wpIn fun v w' h'=>hK _ _ (nm _ _ h')
 have pj:∀(listed:Array Bool) (L:Nat->Bool),listed.size=ops.size->(∀i,i<ops.size->listed.getD i false=L i)->∀i d,i<ops.size->listed.getD i d=L i:=by
  intro listed L H U i d z;have:=U i z;rw[sf] at this ⊢;rw[aBt (by omega)] at this ⊢;simpa using this
 have O1:∀(listed:Array Bool) (L:Nat->Bool),listed.size=ops.size->(∀i,i<ops.size->listed.getD i false=L i)->∀i,i∈Region.ready .any ops listed↔
   (i<ops.size/\L i=false/\∀o,ops[i]? =some o->∀j∈Mu o,j<ops.size/\L j=true):=by
  intro listed L H U i;unfold Region.ready;rw[aCj,ny];constructor
  ·rintro⟨A,D⟩;simp only[K0,tu] at D;obtain⟨D,G⟩:=D;rw[pj listed L H U i true A] at D;refine⟨A,D,fun o C j B=>?_⟩;rw[C] at G;simp only[tw,aCe] at G;obtain⟨e,he,a0⟩:=aDi.1 B;have bk:e∈o.after:=(by simpa using he);have:=aD1.1 G e bk;split at a0
   ·rename_i hb;cases a0;rw[hb] at this;simp only[lu,Bool.false_or] at this;rcases R8 e.on ops.size with N | N
    ·rw[pj listed L H U _ _ N] at this;exact⟨N,this⟩
    ·rw[sf,aBv (by omega)] at this;simp at this
   ·cases a0
  ·rintro⟨A,D,G⟩;refine⟨A,?_⟩;have C:ops[i]? =some ops[i]:=aBt A;simp only[K0,tu,pj listed L H U i true A,D,aEa,C,tw,aCe];refine aD1.2 fun e he=>?_;cases hb:Region.binds .any e with
   |false=>rfl
   |true=>
    have:=G _ C e.on (aDi.2 ⟨e,by simpa using he,by simp[hb]⟩);rw[pj listed L H U _ _ this.1,this.2];rfl
 have y6:∀(listed:Array Bool) (L:Nat->Bool) (j:Nat),listed.size=ops.size->j<ops.size->(∀i,i<ops.size->listed.getD i false=L i)->∀i,i<ops.size->(listed.setIfInBounds j true).getD i false=(i==j || L i):=by
  intro listed L j H B U i z;by_cases R:i=j
  ·subst R;simp only[sf,aDj];simp[H,z]
  ·rw[getD_set_ne false (kq R),U i z];simp[R]
 have hB:∀aa m (listed:Array Bool) a w,listed.size=ops.size->(∀i,i<ops.size->listed.getD i false=decide (i<m))->HG ops (fun i=>decide (i<m))->n<=m->m+aa=ops.size->
   wpListIn F.fe 0 F.P ops (Exit.then (run F.fe F.P Q cs) Q) (ops.toList.drop m) a w->wpAnyIn F.fe 0 F.P .any ops (Exit.then (run F.fe F.P Q cs) Q) aa listed a w:=by
  intro aa
  induction aa with
  |zero=>
   intro m listed a w H ad _ bc bo hw;refine⟨aD8.2 fun i z=>?_,?_⟩
   ·obtain⟨A,D,_⟩:=(O1 listed _ H ad i).1 z;have:i<m:=(by omega);simp[this] at D
   ·rw[aD0 (by rw[ed];omega)] at hw;exact hw
  |succ aa ih=>
   intro m listed a w H ad wb bc bo hw;have af:m<ops.size:=(by omega);have bl:ops[m]? =some ops[m]:=aBt af;have bm:∀i∈Region.ready .any ops listed,i=m:=by
    intro i z;obtain⟨A,D,G⟩:=(O1 listed _ H ad i).1 z;have bu:m<=i:=(by simpa using D);rcases R8 m i with YI | kg
    ·exfalso;have C:ops[i]? =some ops[i]:=aBt A;have ZK:=a6 (by omega) C YI;cases ZK with
     |one S B=>rw[C] at S;cases S;have:=(G _ C _ B).2;simp at this
     |up S B a2=>
      rw[C] at S;cases S;have ap:=(G _ C _ B).2;have:=a2.down wb ap;simp at this
    ·omega
   have bt:ops.toList.drop m=ops[m]::ops.toList.drop (m+1):=by
    rw[aCy (by rw[ed];exact af)];simp
   rw[bt] at hw;refine⟨fun hr=>?_,fun i z=>?_⟩
   ·exfalso;have tf:m∉Region.ready .any ops listed:=(by rw[hr];simp);refine tf ((O1 listed _ H ad m).2 ⟨af,by simp,fun o C j B=>?_⟩);exact bh m o bc C j B
   ·have:=bm i z;subst this;obtain⟨_,_,G⟩:=(O1 listed _ H ad i).1 z;have bn:HG ops (fun k=>decide (k<i+1)):=by
     intro k o hk C j B;have hk:k<i+1:=(by simpa using hk);rcases R8 k i with h | h
     ·have:=wb k o (by simpa using h) C j B;have:j<i:=(by simpa using this);simp;omega
     ·have:k=i:=(by omega);subst this;have:=(G o C j B).2;have:j<k:=(by simpa using this);simp;omega
    have ba:∀a w,wpListIn F.fe 0 F.P ops (Exit.then (run F.fe F.P Q cs) Q) (ops.toList.drop (i+1)) a w->wpAnyIn F.fe 0 F.P .any ops (Exit.then (run F.fe F.P Q cs) Q) aa (listed.setIfInBounds i true) a w:=by
     intro a w hw;refine ih (i+1) _ a w (by simpa using H) (fun j B=>?_) bn (by omega) (by omega) hw;rw[y6 listed _ i H af ad j B];by_cases Y0:j=i
     ·subst Y0;simp
     ·have:(j<i+1)↔j<i:=(by omega);simp[Y0,this]
    unfold wpOpIn;rw[bl];unfold wpListIn at hw;split at hw
    ·rename_i vc;simp only[vc,r7];exact Oper.wpIn_mono ba hw
    ·rename_i vc;simp only[vc];exact⟨hw.1,ba _ _ hw.2⟩
 have hA:∀aa (listed:Array Bool) (L:Nat->Bool) a w,listed.size=ops.size->(∀i,i<ops.size->listed.getD i false=L i)->HG ops L->(∀i,L i=true->i<n)->((List.range ops.size).filter fun i=>L i).length+aa=ops.size->
   St F (σL L) a w->wpAnyIn F.fe 0 F.P .any ops (Exit.then (run F.fe F.P Q cs) Q) aa listed a w:=by
  intro aa
  induction aa with
  |zero=>
   intro listed L a w H U wb ai be h;have u0:∀i,i<ops.size->L i=true:=by
    have E:((List.range ops.size).filter fun i=>L i).length=(List.range ops.size).length:=(by simpa using be);have:=List.length_filter_eq_length_iff.1 E;exact fun i z=>this i (ny.2 z)
   have bv:ops.size=n:=by
    rcases R8 n ops.size with h | h
    ·have:=ai n (u0 n h);omega
    ·omega
   have P0:l2=[]:=kt (by omega);refine⟨aD8.2 fun i z=>?_,?_⟩
   ·obtain⟨A,D,_⟩:=(O1 listed _ H U i).1 z;rw[u0 i A] at D;cases D
   ·have mj:=vx L a w h fun i z=>u0 i (by omega);have:=ht (Exit.then (run F.fe F.P Q cs) Q) [] a w mj (fun a' w' h'=>wpListIn_nil (k a' w' h'));rw[P0] at this;exact this
  |succ aa ih=>
   intro listed L a w H U wb ai be h;by_cases u0:∀i,i<n->L i=true
   ·
    have mj:=vx L a w h u0;have hw:=ht (Exit.then (run F.fe F.P Q cs) Q) [] a w mj (fun a' w' h'=>wpListIn_nil (k a' w' h'));have au:L=fun i=>decide (i<n):=by
     funext i;cases M:L i with
     |true=>simp[ai i M]
     |false=>
      rcases R8 i n with h | h
      ·rw[u0 i h] at M;cases M
      ·simp;omega
    have bw:((List.range ops.size).filter fun i=>L i).length=n:=by
     rw[au];have:ops.size=n+(ops.size - n):=(by omega);rw[this,List.range_add,aB4];rw[aDb.2 (by intro i z;simpa using ny.1 z),List.filter_eq_nil_iff.2 (by intro i z;simp at z ⊢;omega)];simp
    refine hB (aa+1) n listed a w H (fun i z=>by rw[U i z,au]) (by rw[<-au];exact wb) (ZY _) (by omega) ?_;have:ops.toList.drop n=l2:=(by rw[N,<-gz];simp);rw[this];simpa using hw
   ·refine⟨fun hr=>?_,fun i z=>?_⟩
    ·exfalso;have av:∃i,i<n/\L i=false:=by
      refine Classical.byContradiction fun ab=>u0 fun i z=>?_;cases M:L i with
      |true=>rfl
      |false=>exact absurd ⟨i,z,M⟩ ab
     obtain⟨i,⟨z,M⟩,J8⟩:∃i,(i<n/\L i=false)/\∀j,j<i->L j=true:=by
      obtain⟨i,z⟩:=av
      induction i using Nat.strongRecOn with
      |_ i br=>
       by_cases B:∃j,j<i/\L j=false
       ·obtain⟨j,A,D⟩:=B;exact br j A ⟨by omega,D⟩
       ·refine⟨i,z,fun j mr=>?_⟩;cases ac:L j with
        |true=>rfl
        |false=>exact absurd ⟨j,mr,ac⟩ B
     have tf:i∉Region.ready .any ops listed:=(by rw[hr];simp);refine tf ((O1 listed _ H U i).2 ⟨by omega,M,fun o C j B=>?_⟩);have:=a7 i o (by omega) C j B;exact⟨by omega,J8 j this⟩
    ·obtain⟨A,D,G⟩:=(O1 listed _ H U i).1 z;have C:ops[i]? =some ops[i]:=aBt A;have F6:i<n:=by
      refine Classical.byContradiction fun kg=>u0 fun j B=>?_;have ZK:=a6 kg C (j:=j) (by omega);cases ZK with
      |one S B=>rw[C] at S;cases S;exact(G _ C _ B).2
      |up S B a2=>rw[C] at S;cases S;exact a2.down wb (G _ C _ B).2
     refine bi L a w i _ wb h F6 C D (fun j B=>(G _ C j B).2) _ fun a' w' h'=>?_;refine ih _ _ a' w' (by simpa using H) (y6 listed L i H A U) ?_ ?_ ?_ h'
     ·intro q o hq bf j B;by_cases ah:q=i
      ·subst ah;simp[(G o bf j B).2]
      ·have:L q=true:=(by simpa[ah] using hq);simp[wb q o this bf j B]
     ·intro q hq;by_cases ah:q=i
      ·omega
      ·exact ai q (by simpa[ah] using hq)
     ·have:((List.range ops.size).filter fun q=>q==i || L q).length=((List.range ops.size).filter fun q=>L q).length+1:=DN ops.size i L A D;omega
 refine wpIn_region_any hm ?_;refine hA ops.size _ (fun _=>false) a _ (by simp) (fun i z=>by rw[sf,Array.getElem?_replicate,YC z];rfl) (fun _ _ h=>by cases h) (fun _ h=>by cases h) (by rw[List.filter_eq_nil_iff.2 (fun _ _ h=>by cases h)];simp) ?_;obtain⟨⟨ρ,E,m7⟩,hz,j4⟩:=hs;have hb:Below w.heap.size w { w with drawn:=w.drawn+1 }:=(Below.refl _ _).drew;obtain⟨V2,hE⟩:=E.below hb;have e0:σL (fun _=>false)=O:=by
  rw[me];show (⟨Bn _ _ _ _ _,Cg _ _ _ _ _⟩:AS)=O;rw[Gq (m:=0) (aEp _) (fun _ _ _=>rfl),Gr (m:=0) (aEp _) (fun _ _ _=>rfl)];rfl
 rw[e0];exact⟨⟨ρ,V2,fun t s pd=>Slot.WY s _ (m7 t s pd) hE (fun _ _=>rfl)⟩,hz,j4⟩
section
variable {os:List aAi}{O O':AS}{its:List l5}{s s0:Slot}{d:Option Tmp}{pb:Option Nat}{ty:aAb}{p:String}{af:Array Edge}{gd:Option (Nat×Bool)}{x y:aAc}
theorem ZA.store{T U:aAb}{l:List Slot}{i off n:Nat}(g:GK ops O.g ⟨none,.store U x y,ty,p,af,gd⟩ true)(hx:dH O.g x=some (.ptr i off))(he:aY O.d i=some (.box T l pb))(ho:nP l off=some s0)(hy:dH O.g y=some s)(hp:s.plain=true)(B4:Nat.beq s.sz n=true)(O0:Nat.beq s0.sz n=true)
  (hS:∀w,(sizeOf U).run F.P w= .ok n w) (k:ZA F ops OK os ⟨O.g,(i,.box T (oC l off s) pb)::O.d⟩ its O'):
  ZA F ops OK (⟨none,.store U x y,ty,p,af,gd⟩::os) O (⟨.top,[(i,.box T (oC l off s) pb)],[],Li O.g ⟨none,.store U x y,ty,p,af,gd⟩,[]⟩::its) O':=
 .mv g rfl (fun σ2 h _=>Uw ((h.ev (by simp[Op.operands])).trans hx) ((h.G6 (x:=x) (by simp[Op.operands]) hx (by simp[Slot.ZR])).trans he) ho ((h.ev (by simp[Op.operands])).trans hy) hp B4 O0 hS) k
theorem ZA.storeAll{α:Type}{e:Wr α}{z:α}{T U:aAb}{l l':List Slot}{i:Nat}(g:GK ops O.g ⟨none,.store U x y,ty,p,af,gd⟩ true)(hx:dH O.g x=some (.ptr i 0))(he:aY O.d i=some (.box T l pb))(hl:Nat.beq (l.map Slot.sz).sum e.n=true)(hy:dH O.g y=some (.v e z))(ae:N3 l' e z)
  (hS:∀w,(sizeOf U).run F.P w= .ok e.n w) (k:ZA F ops OK os ⟨O.g,(i,.box T l' pb)::O.d⟩ its O'):
  ZA F ops OK (⟨none,.store U x y,ty,p,af,gd⟩::os) O (⟨.top,[(i,.box T l' pb)],[],Li O.g ⟨none,.store U x y,ty,p,af,gd⟩,[]⟩::its) O':=
 .mv g rfl (fun σ2 h _=>bT ((h.ev (by simp[Op.operands])).trans hx) ((h.G6 (x:=x) (by simp[Op.operands]) hx (by simp[Slot.ZR])).trans he) hl ((h.ev (by simp[Op.operands])).trans hy) ae hS) k
theorem ZA.G7{T U:aAb}{l l':List Slot}{i n:Nat}(g:GK ops O.g ⟨none,.store U x y,ty,p,af,gd⟩ true)(hx:dH O.g x=some (.ptr i 0))(he:aY O.d i=some (.box T l pb))(hl:(l.map Slot.sz).sum=n)(hy:dH O.g y=some (.agg l'))(ae:(l'.map Slot.sz).sum=n)(hnt:l'.all Slot.plain=true)
  (hS:∀w,(sizeOf U).run F.P w= .ok n w) (k:ZA F ops OK os ⟨O.g,(i,.box T l' pb)::O.d⟩ its O'):
  ZA F ops OK (⟨none,.store U x y,ty,p,af,gd⟩::os) O (⟨.top,[(i,.box T l' pb)],[],Li O.g ⟨none,.store U x y,ty,p,af,gd⟩,[]⟩::its) O':=
 .mv g rfl (fun σ2 h _=>Ko ((h.ev (by simp[Op.operands])).trans hx) ((h.G6 (x:=x) (by simp[Op.operands]) hx (by simp[Slot.ZR])).trans he) hl ((h.ev (by simp[Op.operands])).trans hy) ae hnt hS) k
theorem Src.loc{α:Type}{e:Wr α}{ys:List α}{o:aAi}{σ2:AS}(h:Src O y e ys)(hL:Loc ops o O σ2)(hm:y∈o.op.operands):Src σ2 y e ys:=fun ρ S a w K=>
 h ρ S a w ⟨K.low,fun x u s z=>K.slot x u s (by
  have:x=y:=by simpa using u
  subst this;rw[hL.ev hm];exact z),fun x u s z i A B C=>K.G6 x u s (by
   have:x=y:=by simpa using u
   subst this;rw[hL.ev hm];exact z) i A B (by
    have:x=y:=by simpa using u
    subst this;rw[hL.G6 hm z A];exact C)⟩
theorem ZA.append{α:Type}{e:Wr α}{xs ys zs:List α}{T U:aAb}{ti:TypeInfo}{z:aAd}{i:Nat}(g:GK ops O.g ⟨d,.call ⟨.builtin .append,#[x,y],#[U,U]⟩,ty,p,af,gd⟩ true)(j:Nat)(ha:app xs ys=some zs)(hx:dH O.g x=some (.ref i))(he:aY O.d i=some (.arr T e xs))(hy:Src O y e ys)
  (hU:∀w,(underlying U).run F.P w= .ok (.slice T) w) (hI:∀w,(typeInfo T).run F.P w= .ok ti w) (hS:∀w,(sizeOf T).run F.P w= .ok e.n w) (hz:ti.zero=some z) (hzs:z.cells.size=e.n) (ah:Nat.ble ti.bytes 4096=true)
  (_:O.free [(j,.arr T e zs)]=true) (hd:gS d F.N=true) (k:ZA F ops OK os ⟨iV d (.ref j) O.g,(j,.arr T e zs)::wN O.d i⟩ its O'):
  ZA F ops OK (⟨d,.call ⟨.builtin .append,#[x,y],#[U,U]⟩,ty,p,af,gd⟩::os) O (⟨.ref j,[(j,.arr T e zs)],[(j,.arr T e zs)],Li O.g ⟨d,.call ⟨.builtin .append,#[x,y],#[U,U]⟩,ty,p,af,gd⟩,[i]⟩::its) O':=
 .mv (nw:=[(j,.arr T e zs)]) (dl:=[i]) g hd (fun σ2 h u=>bU j ha ((h.ev (by simp[Op.operands,Call.operands])).trans hx) ((h.G6 (x:=x) (by simp[Op.operands,Call.operands]) hx (by simp[Slot.ZR])).trans he) (hy.loc h (by simp[Op.operands,Call.operands])) hU hI hS hz hzs ah u hd) k
end
end
end Go.Sw
namespace Go.Sw
open Go Go.RowKit
section
variable {F:YP}{O:AS}{pb:Option Nat}{s:Slot}{d:Option Tmp}{ty:aAb}{p:String}{af:Array Edge}{gd:Option (Nat×Bool)}{x y z:aAc}
theorem ZC.cv{ρ:Nat->LV}{S:Nat->Prop}{w w':aAa}{v:aAd}{s s':Slot}{new N9:List (Nat×XB)}(r8:∀k,S k->k<w.heap.size)(h:ZC ρ S w s new v w')
  (m6:∀F:YP,Sub F ⟨[(0,s)],new⟩ ⟨[(0,s')],N9⟩) (ZW:lG s' N9=true):ZC ρ S w s' N9 v w':=by
 obtain⟨ρ',h1,C,h3,E⟩:=h;let H:YP:=⟨default,1,S,w,fun _=>False,none,[]⟩
 have R:Core H new ρ' w':=⟨r8,C.size,fun k V _=>C.block k V,C.os,C.tape,C.output,E.own,fun i u b B z=>⟨.inl (E.fresh i u b B z).1,(E.fresh i u b B z).2⟩,E.inj,
  fun i u b B z X=>by have:=r8 b X;have:=(E.fresh i u b B z).1;omega⟩
 let a:aAm:=⟨#[v],[]⟩
 have T:St H ⟨[(0,s)],new⟩ a w':=⟨⟨ρ',R,fun t s1 D=>by
  simp only[lk] at D;cases z:Nat.beq 0 t with
  |true=>have:=D6 z;subst this;simp at D;subst D;exact h3
  |false=>rw[z] at D;cases D⟩,rfl,rfl⟩
 obtain⟨⟨ρ2,K,I⟩,_,_⟩:=m6 H a w' T;have I:s'.ok ρ2 (Un S ρ2 N9) w' v:=I 0 s' rfl;simp only[lG,K0,y8] at ZW;let ρ3:Nat->LV:=fun i=>if (aY N9 i).isSome then ρ2 i else ρ i
 have A:∀i u,aY N9 i=some u->ρ3 i=ρ2 i:=fun i u h=>YC (by rw[h];rfl);have M:∀i,(aY N9 i).isSome=true->ρ3 i=ρ2 i:=fun i h=>YC h;have U:Un S ρ3 N9=Un S ρ2 N9:=by
  funext k;apply propext;constructor
  ·rintro (h |⟨i,u,G,L⟩)
   ·exact .inl h
   ·exact .inr ⟨i,u,G,by rw[<-A i u G];exact L⟩
  ·rintro (h |⟨i,u,G,L⟩)
   ·exact .inl h
   ·exact .inr ⟨i,u,G,by rw[A i u G];exact L⟩
 have N:Ext (Un S ρ2 N9) (Un S ρ3 N9) w' w':=⟨ZY _,fun k _ h=>⟨rfl,by rw[U];exact h⟩⟩;refine⟨ρ3,fun i h=>XV (by rw[h];simp),C,Slot.WY s' v I N (fun i B=>congrArg LV.v (M i (ZW.1 i B))),⟨fun i u h=>?_,fun i u b h z=>?_,fun i j u O b h P z Q=>?_⟩⟩
 ·rw[A i u h];exact XB.WY (K.own i u h) N (fun q hq=>congrArg LV.v (M q (ZW.2 _ (mW h) q hq))) (fun _ _=>rfl)
 ·rw[A i u h] at z;have:=K.fresh i u b h z;exact⟨this.1.resolve_right (fun h=>h),this.2⟩
 ·rw[A i u h] at z;rw[A j O P] at Q;exact K.inj i j u O b h P z Q
theorem Qx{o:aAi}{s s':Slot}{new N9:List (Nat×XB)}(h:JO F o O s new)(m6:∀F:YP,Sub F ⟨[(0,s)],new⟩ ⟨[(0,s')],N9⟩)(ZW:lG s' N9=true):JO F o O s' N9:=by
 intro ρ S a w K;exact(h ρ S a w K).mono fun v z u=>u.cv K.low m6 ZW
end
end Go.Sw
namespace Go.Sw
open Go Go.RowKit
section
variable {F:YP}{O:AS}{pb:Option Nat}{s:Slot}{d:Option Tmp}{ty:aAb}{p:String}{af:Array Edge}{gd:Option (Nat×Bool)}{x y z:aAc}{α:Type}{e:Wr α}{T U:aAb}{i:Nat}
theorem p4.sub{xs ys:List α}{lo hi:Int}{S:Nat->Prop}{w:aAa}{v:aAd}{a:Option aAk}{cap:Nat}(hs:Sw.sub xs lo hi=some ys)(h:p4 T e xs S w v)(hv:v= .slice a xs.length cap):
  p4 T e ys S w (.slice (if cap=lo.toNat then a else a.map (·.add (lo.toNat*e.n))) (hi.toNat - lo.toNat) (cap - lo.toNat)):=by
 obtain⟨U,V,F,rfl⟩:=gW hs;rcases h with⟨rfl,rfl⟩|⟨b,z,A,u,B,rfl,G,H,X,h7,h8⟩
 ·simp only[Value.slice.injEq,ak] at hv;obtain⟨rfl,_,rfl⟩:=hv;have:lo.toNat=0:=by simp at F;omega
  have:hi.toNat=0:=by simp at F;omega
  refine .inl ⟨by simp,?_⟩;simp[*]
 ·simp only[Value.slice.injEq,aEa] at hv;obtain⟨rfl,rfl⟩:=hv;have D:=cR H;obtain⟨l,O⟩:∃l,l=lo.toNat:=⟨_,rfl⟩;obtain⟨m,P⟩:∃m,m=hi.toNat:=⟨_,rfl⟩;rw[<-O,<-P];have I:l<=m:=by omega
  have K:m<=xs.length:=by omega
  have L:l*e.n<=m*e.n:=xj _ I;have Q:m*e.n<=xs.length*e.n:=xj _ K;have E:((xs.take m).drop l).length=m - l:=by rw[Z2,I8];omega
  by_cases C:z=l
  ·rw[YC C];have R:m - l=0:=(by omega);refine .inr ⟨b,z - l,A,[],u++B,by rw[E],by simpa using G,?_,by omega,?_,by omega⟩
   ·have:(xs.take m).drop l=[]:=kt (by omega);rw[this];rfl
   ·rw[C,Nat.sub_self];simp
  ·rw[XV C];refine .inr ⟨b,z - l,A++u.take (l*e.n),(u.take (m*e.n)).drop (l*e.n),u.drop (m*e.n)++B,?_,?_,wE _ (sZ _ H),by omega,?_,by omega⟩
   ·rw[E];simp only[tw,Addr.add_lit,sM,I8,D];rw[tx (by omega)]
   ·rw[G];have:A++(u++B)=A++u.take (l*e.n)++((u.take (m*e.n)).drop (l*e.n)++(u.drop (m*e.n)++B)):=by
     have M:u=u.take (l*e.n)++((u.take (m*e.n)).drop (l*e.n)++u.drop (m*e.n)):=by
      have N:u.take (l*e.n)=(u.take (m*e.n)).take (l*e.n):=(by rw[List.take_take,tx L]);rw[<-H7,N,db,db]
     conv=>lhs;rw[M]
     simp only[H7]
    rw[this]
   ·simp only[sM,Z2,I8,D];rw[tx (by omega)];have:(z - l)*e.n+l*e.n=z*e.n:=(by rw[<-O8];congr 1;omega);omega
theorem BN{ρ:Nat->LV}{a:aAm}{w:aAa}{xs ys:List α}{lo hi:Int}{j:Nat}{ad:Option aAk}{cap:Nat}(hc:Core F O.d ρ w)(hs:∀t s,lk O.g t=some s->s.ok ρ (Un F.S0 ρ O.d) w (a.tmps.getD t undef))(hz:a.tmps.size=F.N)(j4:a.defers=F.df)
  (m6:Sw.sub xs lo hi=some ys) (he:aY O.d i=some (.arr T e xs)) (hv:(ρ i).v= .slice ad xs.length cap) (hf:O.free [(j,.arr T e ys)]=true) (hd:gS d F.N=true):
  St F ⟨iV d (.ref j) O.g,(j,.arr T e ys)::wN O.d i⟩ (a.put d (.slice (if cap=lo.toNat then ad else ad.map (·.add (lo.toNat*e.n))) (hi.toNat - lo.toNat) (cap - lo.toNat))) w:=by
 have A:p4 T e xs (Un F.S0 ρ O.d) w (ρ i).v:=hc.own i _ he;have E:=A.sub m6 hv;refine BC (u:= .of _) hc hs hz j4 he hf hd (w7.refl _ _) (.inl ⟨_,_,_,rfl⟩) rfl (fun b G=>?_) (fun K ρ' H=>E.mono H fun _ _=>rfl);have B:qX (ρ i) b:=by
  left;rw[hv];have z:=pN.1 G;cases ad with
  |none=>simp[j1] at z
  |some q=>
   by_cases C:cap=lo.toNat
   ·rw[YC C] at z;exact z
   ·rw[XV C] at z;simp only[tw,j1,E4] at z ⊢;rw[<-z];have D:q.spot=none:=by
     rcases A with⟨_,h⟩|⟨I,P,Q,R,S,h,_⟩
     ·rw[hv] at h;cases h
     ·rw[hv] at h;simp only[Value.slice.injEq,E4] at h;rw[h.1]
    obtain⟨I,L,M⟩:=q;simp only at D;subst D;rw[Addr.add_lit]
 exact⟨.inl B,(hc.fresh i _ b he B).2⟩
theorem MW{xs ys:List α}{hi:Int}{k':aAg}{E:aAb}(j:Nat)(hs:Sw.sub xs 0 hi=some ys)(hx:dH O.g x=some (.ref i))(he:aY O.d i=some (.arr T e xs))(hz:dH O.g z=some (.v (Wr.int k') hi))
  (hU:∀w,(underlying U).run F.P w= .ok (.slice E) w) (hE:∀w,(sizeOf E).run F.P w= .ok e.n w) (hf:O.free [(j,.arr T e ys)]=true) (hd:gS d F.N=true):JM F ⟨d,.slice U x none (some z) none,ty,p,af,gd⟩ O ⟨iV d (.ref j) O.g,(j,.arr T e ys)::wN O.d i⟩:=by
 rintro a w ⟨⟨ρ,h,u⟩,G,H⟩;have K:=cK h u (Op.slice U x none (some z) none).operands;obtain⟨I,B,C,L,D,M⟩:=Vb K (x:=x) (by simp[Op.operands]) hx he;have A:=(fY K (x:=z) (by simp[Op.operands]) hz).1;obtain⟨Q,s1,s2,_⟩:=gW hs;refine XC.value (w':=w) ?_ (BN h u G H hs he D hf hd);simp[execOp,Instr.sliceAt,Instr.slice,C,A,hU,hE,Hs s1 (show hi<=(B:Int) by omega)]
theorem MX{xs ys:List α}{lo:Int}{k:aAg}{E:aAb}(j:Nat)(hs:Sw.sub xs lo (xs.length:Int)=some ys)(hx:dH O.g x=some (.ref i))(he:aY O.d i=some (.arr T e xs))(hy:dH O.g y=some (.v (Wr.int k) lo))
  (hU:∀w,(underlying U).run F.P w= .ok (.slice E) w) (hE:∀w,(sizeOf E).run F.P w= .ok e.n w) (hf:O.free [(j,.arr T e ys)]=true) (hd:gS d F.N=true):JM F ⟨d,.slice U x (some y) none none,ty,p,af,gd⟩ O ⟨iV d (.ref j) O.g,(j,.arr T e ys)::wN O.d i⟩:=by
 rintro a w ⟨⟨ρ,h,u⟩,D,G⟩;have K:=cK h u (Op.slice U x (some y) none none).operands;obtain⟨H,I,A,L,B,M⟩:=Vb K (x:=x) (by simp[Op.operands]) hx he;have z:=(fY K (x:=y) (by simp[Op.operands]) hy).1;obtain⟨C,s1,s2,_⟩:=gW hs;refine XC.value (w':=w) ?_ (BN h u D G hs he B hf hd);simp[execOp,Instr.sliceAt,Instr.slice,A,z,hU,hE,Dp C s1]
theorem Ez{zc:Array aAd}{zv:α}{S:Nat->Prop}{w:aAa}(h:e.ok zv S w zc.toList):∀(n:Nat) (L:List aAd),L.length=n*e.n->(∀i,i<n*e.n->L[i]? =some zc[i % zc.size]!)->e.j7 (List.replicate n zv) S w L
 | 0,L,u,_=>by simp at u;subst u;rfl
 |n+1,L,u,z=>by
  have B:zc.size=e.n:=by have:=e.len h;simpa using this
  rw[O8,tr] at u z;have C:L.take e.n=zc.toList:=by
   apply aCc;intro i;by_cases A:i<e.n
   ·rw[List.getElem?_take_of_lt A,z i (by omega),V8 (by omega)];rw[getElem!_pos zc i (by omega)];simp[show i<zc.size by omega]
   ·rw[dc (by rw[I8];omega),dc (by simp;omega)]
  refine⟨L.take e.n,L.drop e.n,(db _ _).symm,by rw[C];exact h,Ez h n _ (by rw[Z2];omega) fun i A=>?_⟩;rw[List.getElem?_drop,z _ (by omega),B,Nat.add_mod_left]
theorem Bo{zc:Array aAd}{n i:Nat}(h:i<n*zc.size):(Builtin.zeroCells zc n).toList[i]? =some zc[i % zc.size]! :=by
 simp[Builtin.zeroCells,h]
theorem Yu{xs ys:List α}{lo:Int}{z0:aAd}{zv:α}{E:aAb}(hs:Sw.sub xs lo (xs.length:Int)=some ys)(hx:dH O.g x=some (.sub i (lo.toNat*e.n) ((xs.length:Int).toNat - lo.toNat)))(he:aY O.d i=some (.arr T e xs))
  (hU:∀w,(underlying U).run F.P w= .ok (.slice E) w) (hZ:∀w,(zeroValue E).run F.P w= .ok z0 w) (hz:∀S w,e.ok zv S w z0.cells.toList):
  JM F ⟨none,.call ⟨.builtin .clear,#[x],#[U]⟩,ty,p,af,gd⟩ O ⟨O.g,(i,.arr T e (xs.take lo.toNat++List.replicate (xs.length - lo.toNat) zv))::O.d⟩:=by
 rintro a w ⟨⟨ρ,R,V⟩,B4,j4⟩;have K:=cK R V (Op.call ⟨.builtin .clear,#[x],#[U]⟩).operands;have vb:=K.slot x (by simp[Op.operands,Call.operands]) _ hx;simp only[Slot.ok] at vb;obtain⟨_,c,o,g1,N,H⟩:=vb;have L6:p4 T e xs (Un F.S0 ρ O.d) w (ρ i).v:=(K.G6 x (by simp[Op.operands,Call.operands]) _ hx i (by simp[Slot.ZR]) _ he).1;obtain⟨s0,s1,_,_⟩:=gW hs;obtain⟨l,hl⟩:∃l,l=lo.toNat:=⟨_,rfl⟩;simp only[A5] at g1 N H;rw[<-hl] at g1 N H ⊢;have ad:l<=xs.length:=by omega
 have done:∀w',(execOp a.eval ⟨none,.call ⟨.builtin .clear,#[x],#[U]⟩,ty,p,af,gd⟩).run F.P w= .ok (.value (.tuple #[])) w'->
   (∃b,qX (ρ i) b/\ee b w w'/\(Ext (Un F.S0 ρ O.d) (Un F.S0 ρ O.d) w w'->(XB.arr T e (xs.take l++List.replicate (xs.length - l) zv)).ok ρ (Un F.S0 ρ O.d) w' (ρ i)))\/(w'=w/\xs.take l++List.replicate (xs.length - l) zv=xs)->
   XC F.P ⟨none,.call ⟨.builtin .clear,#[x],#[U]⟩,ty,p,af,gd⟩ a w fun v w'=>St F ⟨O.g,(i,.arr T e (xs.take l++List.replicate (xs.length - l) zv))::O.d⟩ (a.put none v) w':=by
  intro w' hr h;refine XC.value hr ?_;rcases h with⟨b,h1,X,D⟩|⟨rfl,X⟩
  ·obtain⟨q1,q2⟩:=R.upd he h1 X D;exact⟨⟨ρ,q1,fun t s L=>Slot.WY s _ (V t s L) q2 (fun _ _=>rfl)⟩,B4,j4⟩
  ·rw[X];refine St.congr (O:=O) (fun _=>rfl) (fun q=>?_) ⟨⟨ρ,R,V⟩,B4,j4⟩;rw[cN];split
   ·rename_i h;subst h;exact he.symm
   ·rfl
 by_cases B:xs.length - l=0
 ·refine done w ?_ (.inr ⟨rfl,?_⟩)
  ·have A:∃q,a.eval x= .slice q 0 c:=by
    rw[H,B];rcases L6 with⟨_,h⟩|⟨b,ab,u,z,post,h,_⟩<;>rw[h]<;>exact⟨_,rfl⟩
   obtain⟨q,A⟩:=A;have C:(Builtin.clear_ #[U] ty #[.slice q 0 c]).run F.P w= .ok (.tuple #[]) w:=by
    cases q<;>simp[Builtin.clear_,hU]
   simp[execOp,resolve,invoke,builtin,A,C]
  ·have:l=xs.length:=(by omega);rw[B,this];simp
 ·have ho:o=l*e.n:=N.resolve_right B;subst ho;rcases L6 with⟨rfl,h⟩|⟨b,ab,u,z,post,D,h4,h5,h6,h7,h8⟩
  ·simp at B
  ·have C:=cR h5;have A:a.eval x= .slice (some ⟨b,u.length+l*e.n,none⟩) (xs.length - l) c:=(by rw[H,D];rfl);obtain⟨n,ac⟩:∃n,n=xs.length - l:=⟨_,rfl⟩;rw[<-ac] at A B done ⊢;have qm:z0.cells.size=e.n:=(by have:=e.len (hz (fun _=>False) w);simpa using this);obtain⟨news,Q⟩:∃news,news=(Builtin.zeroCells z0.cells n).toList:=⟨_,rfl⟩;have G:news.length=n*e.n:=(by rw[Q,ed,size_zeroCells,qm]);have aa:∀S w,e.j7 (List.replicate n zv) S w news:=fun S w=>Ez (hz S w) n news G fun i hi=>by rw[Q];exact Bo (by rw[qm];exact hi)
   have G9:=rP (aa (fun _=>False) w);have ae:l*e.n+n*e.n=z.length:=(by rw[C,<-O8];congr 1;omega);have e1:u++(z++post)=(u++z.take (l*e.n))++(z.drop (l*e.n)++post):=by
    rw[H7,<-H7 (z.take _),db]
   have U9:u.length+l*e.n+news.length<=(u++(z++post)).length:=(by simp only[sM,G];omega);have I:=run_storeCells_at F.P b (u.length+l*e.n) T news 0 (u++(z++post)).toArray w h4 (by simpa using U9) G9;have L:(u++(z++post)).take (u.length+l*e.n)=u++z.take (l*e.n):=by
    have M:(u++z.take (l*e.n)).length=u.length+l*e.n:=(by rw[sM,I8];omega);rw[e1,<-M];exact aCo
   have bt:(u++(z++post)).drop (u.length+l*e.n+news.length)=post:=by
    have M:(u++z).length=u.length+l*e.n+news.length:=(by rw[sM,G];omega);rw[<-H7,<-M];exact tv
   simp only[aDh,List.toList_toArray] at I;rw[L,bt] at I;refine done (w.setRow b (u++z.take (l*e.n)++news++post).toArray) ?_ (.inl ⟨b,.inl (by rw[D];rfl),ee.setRow w b _,fun hE=> .inr ⟨b,ab,u,z.take (l*e.n)++news,post,?_,?_,gN (Wr.XF (sZ l h5) hE) (aa _ _),?_,?_,?_⟩⟩)
   ·have C:(Builtin.clear_ #[U] ty #[.slice (some ⟨b,u.length+l*e.n,none⟩) n c]).run F.P w= .ok (.tuple #[]) (w.setRow b (u++z.take (l*e.n)++news++post).toArray):=by
     obtain⟨n',rfl⟩:∃n',n=n'+1:=⟨n - 1,by omega⟩;simp[Builtin.clear_,hU,hZ,<-Q,I]
    simp[execOp,resolve,invoke,builtin,A,C]
   ·rw[D];simp only[sM,I8,sc];congr 1;omega
   ·have:=setRow_heap w b _ (u++z.take (l*e.n)++news++post).toArray T _ h4;rw[this];congr 3;simp
   ·simp only[sM,I8,sc];omega
   ·simp only[sM,I8,G];rw[tx (by omega)];omega
   ·simp only[sM,I8,sc];omega
end
end Go.Sw
namespace Go.Sw
open Go Go.RowKit
def Wr.G1{α:Type}(e:Wr α):Wr (Option α) where
 n:=1
 agg:=false
 ok x S w cs:=match x with
  |none=>cs=[.pointer none]
  |some z=>∃b u A,cs=[.pointer (some ⟨b,u,none⟩)]/\b<w.heap.size/\¬S b/\XK w b u A/\e.ok z S w A
 len {x _ _ _} h:=by
  cases x with
  |none=>rw[h];rfl
  |some z=>obtain⟨_,_,_,h,_⟩:=h;rw[h];rfl
 one _:=rfl
 cell {x _ _ _} h c hc:=by
  cases x with
  |none=>rw[h] at hc;simp at hc;subst hc;rfl
  |some z=>obtain⟨_,_,_,h,_⟩:=h;rw[h] at hc;simp at hc;subst hc;rfl
 mono {x _ _ _ _ _} h k:=by
  cases x with
  |none=>exact h
  |some z=>
   obtain⟨b,u,A,D,B,C,E,F⟩:=h;exact⟨b,u,A,D,X0 B k.size,(k.M1 b B C).2,E.mono B C k,e.mono F k⟩
theorem Ia{α:Type}{e:Wr α}{S w u}:(Wr.G1 e).val none S w u↔u= .pointer none:=by
 constructor
 ·rintro⟨z,h,rfl⟩;simp only[Wr.G1] at h;subst h;rfl
 ·rintro rfl;exact⟨[.pointer none],rfl,rfl⟩
theorem Bp{α:Type}{e:Wr α}{z:α}{S w u}:(Wr.G1 e).val (some z) S w u↔∃b off ds,u= .pointer (some ⟨b,off,none⟩)/\b<w.heap.size/\¬S b/\XK w b off ds/\e.ok z S w ds:=by
 constructor
 ·rintro⟨A,⟨b,off,ds,rfl,h⟩,rfl⟩;exact⟨b,off,ds,rfl,h⟩
 ·rintro⟨b,off,ds,rfl,h⟩;exact⟨[.pointer (some ⟨b,off,none⟩)],⟨b,off,ds,rfl,h⟩,rfl⟩
section
variable {F:YP}{O:AS}{pb:Option Nat}{s:Slot}{d:Option Tmp}{ty:aAb}{p:String}{af:Array Edge}{gd:Option (Nat×Bool)}{x y z:aAc}{α:Type}{e:Wr α}
theorem Z.G1(e:Wr α):∀S w,(Wr.G1 e).ok none S w [.pointer none]:=fun _ _=>rfl
theorem MY{v:α}{ρ S w u}(h:(Slot.ZH e v).ok ρ S w u):(Slot.v (Wr.G1 e) (some v)).ok ρ S w u:=by
 simp only[Slot.ok] at h ⊢;exact Bp.2 h
theorem BO{o:aAi}{v:α}{new:List (Nat×XB)}(h:JO F o O (.ZH e v) new):JO F o O (.v (Wr.G1 e) (some v)) new:=by
 intro ρ S a w K;refine(h ρ S a w K).mono ?_;rintro u D ⟨ρ',z,A,B,C⟩;exact⟨ρ',z,A,MY B,C⟩
theorem kC(e:Wr α):JO F ⟨d,.assign (.const (.pointer none)),ty,p,af,gd⟩ O (.v (Wr.G1 e) none) []:=by
 intro ρ S a w K;exact XC.value (w':=w) (v:= .pointer none) (by simp[execOp,Act.eval]) (ZC.same (by simp only[Slot.ok];exact Ia.2 rfl))
theorem Jo{v:Option α}{v':α}(hv:v=some v')(hx:dH O.g x=some (.v (Wr.G1 e) v)):JO F ⟨d,.nilCheck x,ty,p,af,gd⟩ O (.ZH e v') []:=by
 subst hv;intro ρ S a w K;have h:=K.slot x (by simp[Op.operands]) _ hx;simp only[Slot.ok] at h;obtain⟨b,z,A,u,B⟩:=Bp.1 h;refine XC.value (w':=w) (v:=a.eval x) ?_ (ZC.same (by simp only[Slot.ok];exact⟨b,z,A,u,B⟩));simp[execOp,u]
theorem Ib{P:aAe}(w:aAa)(T E:aAb)(ad:Option aAk)(hT:∀w,(underlying T).run P w= .ok (.pointer E) w):(Op.equal T (.pointer ad) (.pointer none)).run P w= .ok ad.isNone w:=by
 unfold Op.equal Op.maxDepth Op.equalIn;cases ad<;>simp[hT]
theorem MZ{v:Option α}{T T' E:aAb}(hx:dH O.g x=some (.v (Wr.G1 e) v))(hT:∀w,(underlying T).run F.P w= .ok (.pointer E) w):JO F ⟨d,.binOp .neq T x (.const (.pointer none)) T',ty,p,af,gd⟩ O (.v Wr.bool v.isSome) []:=by
 intro ρ S a w K;have h:=K.slot x (by simp[Op.operands]) _ hx;simp only[Slot.ok] at h;obtain⟨u,A,C⟩:∃u,a.eval x= .pointer u/\(!u.isNone)=v.isSome:=by
  cases v with
  |none=>exact⟨none,Ia.1 h,rfl⟩
  |some z=>obtain⟨b,D,G,A,_⟩:=Bp.1 h;exact⟨_,A,rfl⟩
 have B:=Ib (P:=F.P) w T E u hT;refine XC.value (w':=w) (v:= .bool v.isSome) ?_ (ZC.same (nR _ ρ S w));rw[<-C];exact Yj (r:=u.isNone) (.inr ⟨rfl,rfl⟩) A rfl (by intros;simp) (by intros;simp) (by intros;simp) (by intros;simp) (by simp[eqGuard,Act.eval]) B
theorem NA{zs:List α}{v:α}{U E:aAb}{len:Nat}{k:aAg}{n:Int}(hz:Sw.idx zs n=some v)(hx:dH O.g x=some (.v (Wr.arr len e) zs))(hy:dH O.g y=some (.v (Wr.int k) n))
  (hU:∀w,(underlying U).run F.P w= .ok (.array len E) w) (hE:∀w,(sizeOf E).run F.P w= .ok e.n w) (hA:∀w,(isAgg E).run F.P w= .ok e.agg w):JO F ⟨d,.index U x y,ty,p,af,gd⟩ O (.v e v) []:=by
 intro ρ S a w K;have h:=K.slot x (by simp[Op.operands]) _ hx;simp only[Slot.ok] at h;obtain⟨N,⟨Q,G⟩,H⟩:=h;have B:=(fY K (x:=y) (by simp[Op.operands]) hy).1;obtain⟨I,R,L⟩:=dL hz;obtain⟨z,c,b,rfl,M,A,_⟩:=qY G L;have u:=HU (P:=F.P) (w:=w) (U:=E) (a:=z) (c:=c) (e:=b) hA hE (e.len A) e.one;refine XC.value (w':=w) (v:=e.pk c) ?_ (ZC.same (by simp only[Slot.ok];exact⟨c,A,rfl⟩));have C:0<=n/\n<(len:Int):=⟨I,by omega⟩;rw[M] at u;have D:a.eval x= .agg (z++(c++b)).toArray:=H;simp only[execOp,D,B,Instr.index];simp[asIntOf,hU,C,hE,u,Wr.pk]
theorem H4.aOf{k:Nat}{ps:List (Nat×aAc)}{zs:List α}(h:H4 O e k ps zs){ρ S a w}{ys:Array aAc}(eu:∀x∈ps.map (·.2),x∈ys)(K:B3 O ys ρ S a w):
  ∀pre rest tl:List aAd,pre.length=k*e.n->rest.length=ps.length*e.n->∃ds:List aAd,Instr.fill (fun i=>some (i*e.n,e.n)) (pre++(rest++tl)).toArray (ps.map fun q=>(q.1,a.eval q.2))=some (pre++(ds++tl)).toArray/\e.j7 zs S w ds:=by
 induction h with
 |nil=>intro pre rest tl D E;simp at E;subst E;exact⟨[],rfl,rfl⟩
 |cons D _ L=>
  rename_i k x z ps zs _;intro pre rest tl F G
  have C:=D ρ S a w ⟨K.low,fun y u s h=>K.slot y (eu y (by
   have:y=x:=by simpa using u
   subst this;simp)) s h,fun y u s h=>K.G6 y (eu y (by
    have:y=x:=by simpa using u
    subst this;simp)) s h⟩
  simp only[V6,r5] at C;have A:=rA (s:= .v e z) rfl C;simp only[Slot.j9] at A;have B:=e.len A;simp only[H6,O8,tr] at G;obtain⟨ds,H,I⟩:=L (fun y u=>eu y (by simp only[L4,B1];exact .inr u)) (pre++(a.eval x).cells.toList) (rest.drop e.n) tl (by rw[sM,F,B,O8,tr]) (by rw[Z2];omega);refine⟨(a.eval x).cells.toList++ds,?_,⟨_,_,rfl,A,I⟩⟩;rw[L4,Eo (a:=pre) (c:=rest.take e.n) (e:=rest.drop e.n++tl) rfl (by simp only[ed] at B;exact B) (by simp only[List.toList_toArray];rw[<-H7 (rest.take _),db]) F (by rw[I8];omega)];simpa[H7] using H
theorem Nh{T E:aAb}{n:Nat}{ti tE:TypeInfo}{z:aAd}{zv:α}{ps:List (Nat×aAc)}{zs:List α}(hI:∀w,(typeInfo T).run F.P w= .ok ti w)(hU:∀w,(underlying T).run F.P w= .ok (.array n E) w)(hE:∀w,(typeInfo E).run F.P w= .ok tE w)(hs:tE.size=e.n)(hz:ti.zero=some z)
  (jd:∀S w,(Wr.arr n e).ok (List.replicate n zv) S w z.cells.toList) (hl:ps.length=zs.length) (hle:Nat.ble zs.length n=true) (he:H4 O e 0 ps zs):JO F ⟨d,.build T ps.toArray,ty,p,af,gd⟩ O (.v (Wr.arr n e) (zs++List.replicate (n - zs.length) zv)) []:=by
 intro ρ S a w K;have hle:=E7 hle;obtain⟨L,u⟩:=jd S w;have C:=cR u;simp only[sc] at C;have I:zs.length*e.n<=n*e.n:=xj _ hle;obtain⟨A,B,H⟩:=he.aOf (ys:=(Op.build T ps.toArray).operands) (by intro x h;simp[Op.operands] at h ⊢;exact h) K [] (z.cells.toList.take (zs.length*e.n)) (z.cells.toList.drop (zs.length*e.n)) (by simp) (by rw[I8,hl];omega);rw[db] at B;have D:e.j7 (List.replicate (n - zs.length) zv) S w (z.cells.toList.drop (zs.length*e.n)):=by
  have:=wE zs.length u
  rwa [List.drop_replicate] at this
 refine XC.value (w':=w) (v:= .agg (A++z.cells.toList.drop (zs.length*e.n)).toArray) ?_ (ZC.same (by simp only[Slot.ok];exact⟨_,⟨by simp only[sM,sc];omega,gN H D⟩,rfl⟩));have G:F.P.built T (ps.map fun q=>(q.1,a.eval q.2))=some (A++z.cells.toList.drop (zs.length*e.n)).toArray:=by
  unfold Program.built;rw[uM hI,rC hU];simp only[hz,uM hE,hs];simpa using B
 have:=run_build (P:=F.P) w T (ps.map fun q=>(q.1,a.eval q.2)).toArray _ (by simpa using G);simp only[execOp,aDc];simp[this]
end
end Go.Sw
namespace Go.Sw
open Go Go.RowKit
inductive eg (α:Type) where
 |rows (xs:List α)
 |any (n:Nat)
def eg.ok{α:Type}(e:Wr α)(S:Nat->Prop)(w:aAa):eg α->List aAd->Prop
 | .rows xs,h=>e.j7 xs S w h
 | .any n,h=>h.length=n
def eg.j7{α:Type}(e:Wr α)(S:Nat->Prop)(w:aAa):List (eg α)->List aAd->Prop
 | [],h=>h=[]
 |s::r,h=>∃c d,h=c++d/\s.ok e S w c/\eg.j7 e S w r d
section
variable {α:Type}{e:Wr α}{S S':Nat->Prop}{w w':aAa}
theorem eg.WY{s:eg α}{cs}(h:s.ok e S w cs)(k:Ext S S' w w'):s.ok e S' w' cs:=by
 cases s with
 |rows xs=>exact Wr.XF h k
 |any n=>exact h
theorem eg.XF:∀{q:List (eg α)} {cs},eg.j7 e S w q cs->Ext S S' w w'->eg.j7 e S' w' q cs
 | [],_,h,_=>h
 |_::_,_,⟨c,d,u,z,A⟩,k=>⟨c,d,u,eg.WY z k,eg.XF A k⟩
end
def DE.P6{α:Type}(T:aAb)(e:Wr α)(b:Nat):DE (List (eg α)) where
 ok q S w u _:=u.v= .pointer (some ⟨b,0,none⟩)/\∃h,w.heap[b]? =some (.cells h.toArray T (0,0))/\eg.j7 e S w q h
 mono:=by
  rintro q S E w F u l ⟨z,h,A,B⟩ C D;exact⟨z,h,by rw[D b (.inl (by rw[z];rfl))];exact A,eg.XF B C⟩
section
variable {F:YP}{O:AS}{pb:Option Nat}{s:Slot}{d:Option Tmp}{ty:aAb}{p:String}{af:Array Edge}{gd:Option (Nat×Bool)}{x y z:aAc}{α:Type}{e:Wr α}{T U:aAb}{i b:Nat}
theorem Qy{cs:List aAj}{Q:aAl->aAm->aAa->Prop}{t:Nat}{g':List (Nat×Slot)}{A B:List α}(hσ:O.d=[(i,.arr T e (A++B))])(hB:B≠ [])(hx:lk O.g t=some (.ref i))(hg:ir O.g g')(hl:g'.all (fun y=>y.2.ZR.isEmpty)=true)
  (k:∀b p q c,(A++B).length<=c->c*e.n<=(A++B).length*e.n+q->(A++B).length<=140737488355328->
   W F cs ⟨(t,.D4 i p 0 (A++B).length c)::g',[(i,.dp (DE.P6 T e b) [.any p,.rows A,.rows B,.any q] [])]⟩ Q):W F cs O Q:=by
 obtain⟨g,dd⟩:=O;simp only at hσ hx hg;subst hσ;rintro a w ⟨⟨ρ,N,P⟩,hz,j4⟩;have L:aY [(i,XB.arr T e (A++B))] i=some (.arr T e (A++B)):=by simp[aY]
 have U:p4 T e (A++B) (Un F.S0 ρ [(i,.arr T e (A++B))]) w (ρ i).v:=N.own i _ L;rcases U with⟨h,_⟩|⟨b,ac,K,ae,G,R,h2,S,h4,h5,h6⟩
 ·simp at h;exact absurd h.2 hB
 have ZW:=cR S;refine k b K.length G.length ac h4 (by omega) h6 a w ?_;let ρ':Nat->LV:=fun l=>if l=i then .of (.pointer (some ⟨b,0,none⟩)) else ρ l
 have H:ρ' i= .of (.pointer (some ⟨b,0,none⟩)):=YC rfl;have I:∀l z,aY [(i,XB.dp (DE.P6 T e b) [.any K.length,.rows A,.rows B,.any G.length] [])] l=some z->l=i:=by
  intro l z h;rw[cN] at h;split at h
  ·rename_i C;exact C.symm
  ·cases h
 have ad:∀l z,aY [(i,XB.arr T e (A++B))] l=some z->l=i:=by
  intro l z h;rw[cN] at h;split at h
  ·rename_i C;exact C.symm
  ·cases h
 have V:∀k,qX (ρ' i) k->qX (ρ i) k:=by
  intro k D;rw[H] at D;have:=pN.1 D;left;rw[R];exact this
 obtain⟨q1,q2⟩:=N.ow (d':=[(i,.dp (DE.P6 T e b) [.any K.length,.rows A,.rows B,.any G.length] [])]) (ρ':=ρ') (fun l z bb h D=>by
   have X:=I l z h;rw[X] at D
   exact⟨i,_,L,V bb D⟩) (fun l l' z ab k h h' _ _=>by rw[I l z h,I l' ab h']) (fun hE l z h=>by
   obtain rfl:=I l z h;simp only[aY,aC4,YX,E4] at h;subst h;rw[H];obtain⟨ca,cb,rfl,k1,k2⟩:=zL (Wr.XF S hE)
   exact⟨rfl,_,h2,K,_,rfl,rfl,ca,_,by rw[H7],k1,cb,G,rfl,k2,G,[],by simp,rfl,rfl⟩)
 refine⟨⟨ρ',q1,fun u s E=>?_⟩,hz,j4⟩;rw[mN] at E;split at E
 ·rename_i C;subst C;cases E;have:=P t _ hx;simp only[Slot.ok] at this ⊢;refine⟨⟨b,by rw[H];rfl⟩,?_⟩;rw[this.2,R,H];rfl
 ·have aa:=hg.spec u s E;refine Slot.WY s _ (P u s aa) q2 fun l M=>?_;have:=y8.1 hl _ (Mn E);have:s.ZR=[]:=by simpa using this
  rw[this] at M;cases M
theorem Bq{t p n c q:Nat}{A V B:List α}(hn:n=(A++(V++B)).length)(hnc:n<=c)(rf:c*e.n<=n*e.n+q)(B4:n<=140737488355328){g:List (Nat×Slot)}(hx:lk g t=some (.D4 i p 0 n c)):
  Sub F ⟨g,[(i,.dp (DE.P6 T e b) [.any p,.rows A,.rows V,.rows B,.any q] [])]⟩ ⟨[(t,.ref i)],[(i,.arr T e (A++(V++B)))]⟩:=by
 rintro a w ⟨⟨ρ,hc,hs⟩,hz,j4⟩;have P:aY [(i,XB.dp (DE.P6 T e b) [.any p,.rows A,.rows V,.rows B,.any q] [])] i=some (.dp (DE.P6 T e b) [.any p,.rows A,.rows V,.rows B,.any q] []):=by simp[aY]
 obtain⟨E,cs,I,K⟩:=hc.own i _ P;obtain⟨M,_,rfl,rfl,N,_,rfl,U,cv,_,rfl,X,O,_,rfl,k3,ac,_,rfl,rfl,rfl⟩:=K;let ρ':Nat->LV:=fun l=>if l=i then .of (.slice (some ⟨b,M.length,none⟩) n c) else ρ l
 have C:ρ' i= .of (.slice (some ⟨b,M.length,none⟩) n c):=YC rfl;have D:∀l z,aY [(i,XB.arr T e (A++(V++B)))] l=some z->l=i:=by
  intro l z h;rw[cN] at h;split at h
  ·rename_i H;exact H.symm
  ·cases h
 have Q:∀{S w},e.j7 A S w N->e.j7 V S w cv->e.j7 B S w O->e.j7 (A++(V++B)) S w (N++(cv++O)):=fun E I K=>gN E (gN I K);have aa:=cR (Q U X k3)
 obtain⟨q1,q2⟩:=hc.ow (d':=[(i,.arr T e (A++(V++B)))]) (ρ':=ρ') (fun l z k h R=>by
   obtain rfl:=D l z h;refine⟨l,_,P,?_⟩;rw[C] at R;have:=pN.1 R
   left;rw[E];exact this) (fun l l' z ab k h h' _ _=>by rw[D l z h,D l' ab h']) (fun L l z h=>by
   obtain rfl:=D l z h;simp only[aY,aC4,YX,E4] at h;subst h;rw[C];refine .inr ⟨b,c,M,N++(cv++O),ac,by rw[hn];rfl,?_,Q (Wr.XF U L) (Wr.XF X L) (Wr.XF k3 L),by omega,?_,by omega⟩
   ·rw[I];simp[H7]
   ·rw[aa,<-hn];exact rf)
 refine⟨⟨ρ',q1,fun u s G=>?_⟩,hz,j4⟩;rw[mN] at G;split at G
 ·rename_i H;subst H;cases G;have:=hs t _ hx;simp only[Slot.ok] at this ⊢;refine⟨.inl ⟨_,_,_,by rw[C];rfl⟩,?_⟩;rw[this.2,E,C];rfl
 ·cases G
theorem rW{ρ:Nat->LV}{S:Nat->Prop}{w:aAa}{o n c:Nat}{v:aAd}(h:(Slot.D4 i o 0 n c).ok ρ S w v):∃b,(ρ i).v= .pointer (some ⟨b,0,none⟩)/\v= .slice (some ⟨b,o,none⟩) n c:=by
 simp only[Slot.ok] at h;obtain⟨⟨b,u⟩,z⟩:=h;exact⟨b,u,by rw[z,u];rfl⟩
theorem Ni{ρ:Nat->LV}{S:Nat->Prop}{w:aAa}{o n c b:Nat}(h:(ρ i).v= .pointer (some ⟨b,0,none⟩)):(Slot.D4 i o 0 n c).ok ρ S w (.slice (some ⟨b,o,none⟩) n c):=by
 simp only[Slot.ok];exact⟨⟨b,h⟩,by rw[h];rfl⟩
theorem Ae{o n c m:Nat}{lo:Int}{k:aAg}{E:aAb}(o' n' c':Nat)(hlo:lo=(m:Int))(hm:m<=n)(hmc:m<c)(ho:o'=o+m*e.n)(M3:n'=n - m)(V2:c'=c - m)(hx:dH O.g x=some (.D4 i o 0 n c))(hy:dH O.g y=some (.v (Wr.int k) lo))
  (hU:∀w,(underlying U).run F.P w= .ok (.slice E) w) (hE:∀w,(sizeOf E).run F.P w= .ok e.n w):JO F ⟨d,.slice U x (some y) none none,ty,p,af,gd⟩ O (.D4 i o' 0 n' c') []:=by
 subst hlo ho M3 V2;intro ρ S a w K;obtain⟨b,A,B⟩:=rW (K.slot x (by simp[Op.operands]) _ hx);have h:=(fY K (x:=y) (by simp[Op.operands]) hy).1;refine XC.value (w':=w) ?_ (ZC.same (Ni A));have u:=Dp (P:=F.P) (w:=w) (len:=n) (cap:=c) (k:=k) (lo:=(m:Int)) (by omega) (by omega);have z:¬(c=m):=by omega
 simp[execOp,Instr.sliceAt,Instr.slice,B,h,hU,hE,u,z,Addr.add_lit]
theorem Fa{o n c m:Nat}{hi:Int}{k:aAg}{E:aAb}(n':Nat)(hhi:hi=(m:Int))(hm:m<=c)(M3:n'=m)(hx:dH O.g x=some (.D4 i o 0 n c))(hy:dH O.g y=some (.v (Wr.int k) hi))
  (hU:∀w,(underlying U).run F.P w= .ok (.slice E) w) (hE:∀w,(sizeOf E).run F.P w= .ok e.n w):JO F ⟨d,.slice U x none (some y) none,ty,p,af,gd⟩ O (.D4 i o 0 n' c) []:=by
 subst hhi M3;intro ρ S a w K;obtain⟨b,A,B⟩:=rW (K.slot x (by simp[Op.operands]) _ hx);have h:=(fY K (x:=y) (by simp[Op.operands]) hy).1;refine XC.value (w':=w) ?_ (ZC.same (Ni A));have u:=Hs (P:=F.P) (w:=w) (len:=n) (cap:=c) (k':=k) (hi:=(n':Int)) (by omega) (by omega);have z:Addr.add ⟨b,o,none⟩ 0=⟨b,o,none⟩:=by rw[Addr.add_lit];rfl
 simp[execOp,Instr.sliceAt,Instr.slice,B,h,hU,hE,u,z]
theorem Vd{ρ:Nat->LV}{w:aAa}{q:List (eg α)}(hc:Core F O.d ρ w)(he:aY O.d i=some (.dp (DE.P6 T e b) q [])):(ρ i).v= .pointer (some ⟨b,0,none⟩)/\∃cs,w.heap[b]? =some (.cells cs.toArray T (0,0))/\eg.j7 e (Un F.S0 ρ O.d) w q cs:=hc.own i _ he
theorem Qz{ρ:Nat->LV}{a:aAm}{w:aAa}{q q':List (eg α)}{k:Nat}{c0 c1 c2 news:List aAd}(hc:Core F O.d ρ w)(hs:∀t s,lk O.g t=some s->s.ok ρ (Un F.S0 ρ O.d) w (a.tmps.getD t undef))(hz:a.tmps.size=F.N)(j4:a.defers=F.df)
  (he:aY O.d i=some (.dp (DE.P6 T e b) q [])) (hd:gS d F.N=true) (hb:w.heap[b]? =some (.cells (c0++(c1++c2)).toArray T (0,0))) (hk:k<=9223372036854775807)
  (hq:∀w',Ext (Un F.S0 ρ O.d) (Un F.S0 ρ O.d) w w'->eg.j7 e (Un F.S0 ρ O.d) w' q' (c0++(news++c2))):
  St F ⟨iV d (.v (Wr.int .i64) ((k:Nat):Int)) O.g,(i,.dp (DE.P6 T e b) q' [])::O.d⟩ (a.put d (.int .i64 (k:Int))) (w.setRow b (c0++(news++c2)).toArray):=by
 have z:=(Vd hc he).1;have C:=ee.setRow w b (c0++(news++c2)).toArray;obtain⟨G,H⟩:=hc.upd (en':= .dp (DE.P6 T e b) q' []) he (.inl (by rw[z];rfl)) C (fun E=>⟨z,_,setRow_heap w b _ (c0++(news++c2)).toArray T _ hb,hq _ E⟩);refine⟨⟨ρ,G,fun t s h=>?_⟩,by rw[lE,hz],by cases d<;>exact j4⟩;have A:∀t s,lk O.g t=some s->s.ok ρ (Un F.S0 ρ ((i,.dp (DE.P6 T e b) q' [])::O.d)) (w.setRow b (c0++(news++c2)).toArray) (a.tmps.getD t undef):=fun t s h=>Slot.WY s _ (hs t s h) H (fun _ _=>rfl);cases d with
 |none=>exact A t s h
 |some B=>
  simp only[iV] at h;have D:B<a.tmps.size:=by rw[hz];exact E7 hd
  rw[lF a B _ t D];rw[mN] at h;split at h
  ·rename_i u;cases h;rw[YC u];exact tP (Dl hk) _ _ _
  ·rename_i u;rw[XV u];exact A t s h
theorem Gs{P:aAe}{w:aAa}{U E tt:aAb}{en b o n c m cap:Nat}{ad:Option aAk}{c0 c1 c2 news:List aAd}(hU:∀w,(underlying U).run P w= .ok (.slice E) w)(hE:∀w,(sizeOf E).run P w= .ok en w)
  (hb:w.heap[b]? =some (.cells (c0++(c1++c2)).toArray T (0,0))) (h0:c0.length=o) (h1:c1.length=news.length) (hn:news.length=min m n*en) (H0:∀py,ad=some py->∀j u,news[j]? =some u->w.cell? (py.add j)=some u) (gy:ad=none->news=[]) (G9:∀v∈news,v.oneCell'=true):
  (Builtin.copy_ #[U,U] tt #[.slice (some ⟨b,o,none⟩) n c,.slice ad m cap]).run P w= .ok (.int .i64 ((min m n:Nat):Int)) (w.setRow b (c0++(news++c2)).toArray):=by
 have z:(Builtin.firstCells en (min m n) (.slice ad m cap)).run P w= .ok news.toArray w:=by
  cases ZS:ad with
  |none=>rw[gy ZS];simp[Builtin.firstCells]
  |some py=>exact run_firstCells_some (P:=P) w en (min m n) py m cap news hn (H0 py ZS)
 have A:o+news.length<=(c0++(c1++c2)).length:=by simp only[sM];omega
 have h:=run_storeCells_at P b o T news 0 (c0++(c1++c2)).toArray w hb (by simpa using A) G9;have B:(c0++(c1++c2)).take o=c0:=by rw[<-h0];exact aCo
 have JX:(c0++(c1++c2)).drop (o+news.length)=c2:=by
  rw[<-h0,<-h1,<-H7,<-sM];exact tv
 simp only[aDh] at h;rw[B,JX,H7] at h;simp only[Builtin.copy_];have C:Nat.min m n=min m n:=rfl;simp[hU,hE,Builtin.lenOf,C,z,h,goInt]
theorem Lz{xs:List α}{S w cs}(h:e.j7 xs S w cs):∀v∈cs,v.oneCell'=true:=rP h
theorem Ve{q m pp n1 c1 n2 c2 o1 o2:Nat}{A B:List α}{E:aAb}(he:aY O.d i=some (.dp (DE.P6 T e b) [.any pp,.rows A,.rows B,.any q] []))(hx:dH O.g x=some (.D4 i o1 0 n1 c1))(hy:dH O.g y=some (.D4 i o2 0 n2 c2))
  (ho1:o1=pp+(A.length+m)*e.n) (ho2:o2=pp+A.length*e.n) (O9:n1=B.length) (tg:n2=B.length+m) (hq:m*e.n<=q) (hBl:B.length<=9223372036854775807)
  (hU:∀w,(underlying U).run F.P w= .ok (.slice E) w) (hE:∀w,(sizeOf E).run F.P w= .ok e.n w) (hd:gS d F.N=true):
  JM F ⟨d,.call ⟨.builtin .copy,#[x,y],#[U,U]⟩,ty,p,af,gd⟩ O ⟨iV d (.v (Wr.int .i64) ((B.length:Nat):Int)) O.g,(i,.dp (DE.P6 T e b) [.any pp,.rows A,.any (m*e.n),.rows B,.any (q - m*e.n)] [])::O.d⟩:=by
 subst ho1 ho2 O9 tg;rintro a w ⟨⟨ρ,Q,hs⟩,B4,j4⟩;have K:=cK Q hs (Op.call ⟨.builtin .copy,#[x,y],#[U,U]⟩).operands;obtain⟨b1,g1,g2⟩:=rW (K.slot x (by simp[Op.operands,Call.operands]) _ hx);obtain⟨b2,g3,g4⟩:=rW (K.slot y (by simp[Op.operands,Call.operands]) _ hy);obtain⟨k1,cs,I,C,_,rfl,D,G,_,rfl,k4,cb,_,rfl,M,L,_,rfl,R,rfl⟩:=Vd Q he;have e1:b1=b:=by rw[k1] at g1;cases g1;rfl
 have e2:b2=b:=by rw[k1] at g3;cases g3;rfl
 rw[e1] at g2;rw[e2] at g4;have D:C.length=pp:=D;have R:L.length=q:=R;have S:=cR k4;have V:=cR M;obtain⟨z,q8⟩:∃z,z=cb++(L++[]):=⟨_,rfl⟩;have H:z.length=B.length*e.n+q:=by rw[q8];simp only[sM,ak];omega
 have X:C++(G++(cb++(L++[])))=(C++G++z.take (m*e.n))++((z.drop (m*e.n)).take (B.length*e.n)++z.drop (m*e.n+B.length*e.n)):=by
  rw[<-q8];have:z=z.take (m*e.n)++((z.drop (m*e.n)).take (B.length*e.n)++z.drop (m*e.n+B.length*e.n)):=by
   rw[<-aDz,db,db]
  conv=>lhs;rw[this]
  simp only[H7]
 rw[X] at I;have J8:min (B.length+m) B.length=B.length:=by omega
 have R3:∀j u,cb[j]? =some u->w.cell? ((⟨b,pp+A.length*e.n,none⟩:aAk).add j)=some u:=by
  have hm:XK w b (C.length+G.length) cb:=by
   have h1:=XK.of_heap I;rw[<-X,<-H7] at h1;have:=XK.sub (a:=C++G) (c:=cb) (d:=L++[]) h1;simpa using this
  intro j u hj;have:=hm.cell j u hj
  rwa [D,S] at this
 have hr:=Gs (P:=F.P) (w:=w) (tt:=ty) (T:=T) (U:=U) (E:=E) (en:=e.n) (b:=b) (o:=pp+(A.length+m)*e.n) (n:=B.length) (c:=c1) (m:=B.length+m) (cap:=c2) (ad:=some ⟨b,pp+A.length*e.n,none⟩) (news:=cb) hU hE I
  (by simp only[sM,I8,D,S,H];rw[tx (by omega),O8];omega)
  (by simp only[I8,Z2,H,V];omega) (by rw[J8];exact V) (fun py h=>by cases h;exact R3) (fun h=>by cases h) (Lz M)
 rw[J8] at hr;refine XC.value (v:= .int .i64 ((B.length:Nat):Int)) (w':=_) ?_ (Qz (q':=[.any pp,.rows A,.any (m*e.n),.rows B,.any (q - m*e.n)]) Q hs B4 j4 he hd I hBl (news:=cb) fun w' tq=>?_)
 ·simp[execOp,resolve,invoke,builtin,g2,g4,hr]
 ·refine⟨C,_,by rw[H7,H7],D,G,_,rfl,Wr.XF k4 tq,z.take (m*e.n),_,rfl,?_,cb,_,rfl,Wr.XF M tq,z.drop (m*e.n+B.length*e.n),[],by simp,?_,rfl⟩
  ·show (z.take (m*e.n)).length=_;rw[I8,H];omega
  ·show (z.drop (m*e.n+B.length*e.n)).length=_;rw[Z2,H];omega
theorem Yv{q m pp n1 c1 o1 k:Nat}{A V B:List α}{E:aAb}(he:aY O.d i=some (.dp (DE.P6 T e b) [.any pp,.rows A,.any k,.rows B,.any q] []))(hx:dH O.g x=some (.D4 i o1 0 n1 c1))(hy:Src O y e V)
  (ho1:o1=pp+A.length*e.n) (hV:V.length=m) (hk:k=m*e.n) (O9:m<=n1)
  (hU:∀w,(underlying U).run F.P w= .ok (.slice E) w) (hE:∀w,(sizeOf E).run F.P w= .ok e.n w) (hd:gS d F.N=true):
  JM F ⟨d,.call ⟨.builtin .copy,#[x,y],#[U,U]⟩,ty,p,af,gd⟩ O ⟨iV d (.v (Wr.int .i64) ((m:Nat):Int)) O.g,(i,.dp (DE.P6 T e b) [.any pp,.rows A,.rows V,.rows B,.any q] [])::O.d⟩:=by
 subst ho1 hk;rintro a w ⟨⟨ρ,S,hs⟩,B4,j4⟩;have K:=cK S hs (Op.call ⟨.builtin .copy,#[x,y],#[U,U]⟩).operands;obtain⟨b1,g1,g2⟩:=rW (K.slot x (by simp[Op.operands,Call.operands]) _ hx);have X:∀q,q∈#[y]->q∈(Op.call ⟨.builtin .copy,#[x,y],#[U,U]⟩).operands:=by
  intro q z;have S8:q=y:=by simpa using z
  subst S8;simp[Op.operands,Call.operands]
 obtain⟨X7,ad,c,r1,r2⟩:=hy ρ _ a w ⟨K.low,fun q z s h=>K.slot q (X q z) s h,fun q z s h=>K.G6 q (X q z) s h⟩;obtain⟨k1,cs,L,D,_,rfl,C,M,_,rfl,k4,cg,_,rfl,G,Q,_,rfl,k5,R,_,rfl,G8,rfl⟩:=Vd S he;have e1:b1=b:=by rw[k1] at g1;cases g1;rfl
 rw[e1] at g2;have C:D.length=pp:=C;have G:cg.length=m*e.n:=G;have cq:=cR k4;have J8:min m n1=m:=by omega
 obtain⟨news,aa,n2,n3,n4⟩:∃news:List aAd,news.length=m*e.n/\e.j7 V (Un F.S0 ρ O.d) w news/\(∀H,ad=some H->∀j u,news[j]? =some u->w.cell? (H.add j)=some u)/\(ad=none->news=[]):=by
  rcases r2 with rfl |⟨b3,ac,ds,rfl,ab,ki⟩
  ·simp at hV;subst hV;exact⟨[],by simp,rfl,fun _ _ j u h=>by simp at h,fun _=>rfl⟩
  ·exact⟨ds,by rw[cR ki,hV],ki,fun H h=>by cases h;exact ab.cell,fun h=>by cases h⟩
 have K7:D++(M++(cg++(Q++(R++[]))))=(D++M)++(cg++(Q++R)):=by simp
 rw[K7] at L;have hr:=Gs (P:=F.P) (w:=w) (tt:=ty) (T:=T) (U:=U) (E:=E) (en:=e.n) (b:=b) (o:=pp+A.length*e.n) (n:=n1) (c:=c1) (m:=m) (cap:=c) (ad:=ad) (news:=news) hU hE L
  (by simp only[sM,C,cq]) (by rw[G,aa]) (by rw[J8];exact aa) n3 n4 (Lz n2)
 rw[J8] at hr;refine XC.value (v:= .int .i64 ((m:Nat):Int)) (w':=_) ?_ (Qz (q':=[.any pp,.rows A,.rows V,.rows B,.any q]) S hs B4 j4 he hd L (by omega) (news:=news) fun w' I=>?_)
 ·rw[hV] at r1;simp[execOp,resolve,invoke,builtin,g2,r1,hr]
 ·exact⟨D,_,by rw[H7],C,M,_,rfl,Wr.XF k4 I,news,_,rfl,Wr.XF n2 I,Q,_,rfl,Wr.XF k5 I,R,[],by simp,G8,rfl⟩
end
end Go.Sw
namespace Go.Sw
open Go Go.RowKit
section
variable {F:YP}{O:AS}{pb:Option Nat}{s:Slot}{d:Option Tmp}{ty:aAb}{p:String}{af:Array Edge}{gd:Option (Nat×Bool)}{x y z:aAc}{α:Type}{e:Wr α}{T U:aAb}{i b:Nat}
theorem Yw{xs:Array aAc}{ρ:Nat->LV}{S a w}(K:B3 O xs ρ S a w)(hm:x∈xs){o n c:Nat}{q:List (eg α)}(hx:dH O.g x=some (.D4 i o 0 n c))(he:aY O.d i=some (.dp (DE.P6 T e b) q [])):
  a.eval x= .slice (some ⟨b,o,none⟩) n c/\(∃cs,w.heap[b]? =some (.cells cs.toArray T (0,0))/\eg.j7 e S w q cs)/\S b/\b<w.heap.size:=by
 obtain⟨C,h,z⟩:=rW (K.slot x hm _ hx);obtain⟨⟨u,A⟩,B⟩:=K.G6 x hm _ hx i (by simp[Slot.ZR]) _ he;rw[u] at h;cases h;exact⟨z,A,B b (.inl (by rw[u];rfl))⟩
theorem Src.P6{pp q n c o:Nat}{A B:List α}(h:dH O.g y=some (.D4 i o 0 n c))(he:aY O.d i=some (.dp (DE.P6 T e b) [.any pp,.rows A,.rows B,.any q] []))(ho:o=pp+A.length*e.n)(hn:n=B.length)(B4:B.length<=140737488355328):Src O y e B:=by
 subst ho hn;intro ρ S a w K;obtain⟨u,⟨M,F,C,_,rfl,z,G,_,rfl,H,D,_,rfl,I,L,_,rfl,N,rfl⟩,_⟩:=Yw K (x:=y) (by simp) h he;have z:C.length=pp:=z;have E:=cR H;refine⟨B4,_,c,u,.inr ⟨b,_,D,rfl,?_,I⟩⟩;have u:=XK.of_heap F;rw[<-H7] at u;have:=XK.sub (a:=C++G) (c:=D) (d:=L++[]) u;simpa[z,E] using this
theorem Nj{zs ys ws:List α}{lo:Int}{E:aAb}(mm:Sw.sub zs lo (zs.length:Int)=some ws)(hx:dH O.g x=some (.sub i (lo.toNat*e.n) ((zs.length:Int).toNat - lo.toNat)))(he:aY O.d i=some (.arr T e zs))(hy:Src O y e ys)(hle:ys.length<=zs.length - lo.toNat)
  (hU:∀w,(underlying U).run F.P w= .ok (.slice E) w) (hE:∀w,(sizeOf E).run F.P w= .ok e.n w) (hd:gS d F.N=true):
  JM F ⟨d,.call ⟨.builtin .copy,#[x,y],#[U,U]⟩,ty,p,af,gd⟩ O ⟨iV d (.v (Wr.int .i64) ((ys.length:Nat):Int)) O.g,(i,.arr T e (zs.take lo.toNat++ys++zs.drop (lo.toNat+ys.length)))::O.d⟩:=by
 rintro a w ⟨⟨ρ,hc,m7⟩,B4,j4⟩;have K:=cK hc m7 (Op.call ⟨.builtin .copy,#[x,y],#[U,U]⟩).operands;have vb:=K.slot x (by simp[Op.operands,Call.operands]) _ hx;simp only[Slot.ok] at vb;obtain⟨_,c,o,g1,X,Q⟩:=vb;have L6:p4 T e zs (Un F.S0 ρ O.d) w (ρ i).v:=(K.G6 x (by simp[Op.operands,Call.operands]) _ hx i (by simp[Slot.ZR]) _ he).1;have ZK:∀q,q∈#[y]->q∈(Op.call ⟨.builtin .copy,#[x,y],#[U,U]⟩).operands:=by
  intro q G;have S8:q=y:=by simpa using G
  subst S8;simp[Op.operands,Call.operands]
 obtain⟨X7,ad,cy,r1,r2⟩:=hy ρ _ a w ⟨K.low,fun q G s h=>K.slot q (ZK q G) s h,fun q G s h=>K.G6 q (ZK q G) s h⟩;obtain⟨s0,s1,_,_⟩:=gW mm;obtain⟨l,hl⟩:∃l,l=lo.toNat:=⟨_,rfl⟩;simp only[A5] at g1 X Q;rw[<-hl] at g1 X Q hle ⊢;have am:l<=zs.length:=by omega
 have done:∀w',(execOp a.eval ⟨d,.call ⟨.builtin .copy,#[x,y],#[U,U]⟩,ty,p,af,gd⟩).run F.P w= .ok (.value (.int .i64 ((ys.length:Nat):Int))) w'->
   (∃b,qX (ρ i) b/\ee b w w'/\(Ext (Un F.S0 ρ O.d) (Un F.S0 ρ O.d) w w'->(XB.arr T e (zs.take l++ys++zs.drop (l+ys.length))).ok ρ (Un F.S0 ρ O.d) w' (ρ i)))\/(w'=w/\zs.take l++ys++zs.drop (l+ys.length)=zs)->
   XC F.P ⟨d,.call ⟨.builtin .copy,#[x,y],#[U,U]⟩,ty,p,af,gd⟩ a w fun v w'=>St F ⟨iV d (.v (Wr.int .i64) ((ys.length:Nat):Int)) O.g,(i,.arr T e (zs.take l++ys++zs.drop (l+ys.length)))::O.d⟩ (a.put d v) w':=by
  intro w' M h;refine XC.value M ?_;obtain⟨q1,q2⟩:Core F ((i,.arr T e (zs.take l++ys++zs.drop (l+ys.length)))::O.d) ρ w'/\Ext (Un F.S0 ρ O.d) (Un F.S0 ρ ((i,.arr T e (zs.take l++ys++zs.drop (l+ys.length)))::O.d)) w w':=by
   rcases h with⟨b,H,h2,I⟩|⟨rfl,h2⟩
   ·exact hc.upd he H h2 I
   ·rw[h2];have aa:∀q en,aY O.d q=some en↔aY ((i,.arr T e zs)::O.d) q=some en:=fun q en=>by
     rw[cN];split
     ·rename_i h;subst h;rw[he]
     ·rfl
    exact⟨hc.congr aa,⟨ZY _,fun k _ hk=>⟨rfl,by rw[<-Un.congr aa];exact hk⟩⟩⟩
  refine⟨⟨ρ,q1,fun t s A=>?_⟩,by rw[lE,B4],by cases d<;>exact j4⟩;have ab:∀t s,lk O.g t=some s->s.ok ρ (Un F.S0 ρ ((i,.arr T e (zs.take l++ys++zs.drop (l+ys.length)))::O.d)) w' (a.tmps.getD t undef):=fun t s A=>Slot.WY s _ (m7 t s A) q2 (fun _ _=>rfl);cases d with
  |none=>exact ab t s A
  |some q0=>
   simp only[iV] at A;have YI:q0<a.tmps.size:=(by rw[B4];exact E7 hd);rw[lF a q0 _ t YI];rw[mN] at A;split at A
   ·rename_i H;cases A;rw[YC H];exact tP (Dl (by omega)) _ _ _
   ·rename_i H;rw[XV H];exact ab t s A
 by_cases R:zs.length - l=0
 ·have ah:ys=[]:=kt (by omega);subst ah;refine done w ?_ (.inr ⟨rfl,by simp⟩);have D:∃q,a.eval x= .slice q 0 c:=by
   rw[Q,R];rcases L6 with⟨_,h⟩|⟨b,cap,B,z,C,h,_⟩<;>rw[h]<;>exact⟨_,rfl⟩
  obtain⟨q,D⟩:=D;have hf:(Builtin.firstCells e.n 0 (.slice ad 0 cy)).run F.P w= .ok #[] w:=by
   cases ad<;>simp[Builtin.firstCells,loadCells,loadCellsFrom]
  have ai:(Builtin.copy_ #[U,U] ty #[.slice q 0 c,.slice ad 0 cy]).run F.P w= .ok (.int .i64 0) w:=by
   have L:Nat.min 0 0=0:=rfl;cases q<;>simp[Builtin.copy_,hU,hE,Builtin.lenOf,L,hf,goInt,storeCells]
  simp only[ak] at r1;simp[execOp,resolve,invoke,builtin,D,r1,ai]
 ·have ho:o=l*e.n:=X.resolve_right R;subst ho;rcases L6 with⟨rfl,h⟩|⟨b,cap,B,z,C,I,h4,h5,h6,h7,h8⟩
  ·simp at R
  ·have ZW:=cR h5;have D:a.eval x= .slice (some ⟨b,B.length+l*e.n,none⟩) (zs.length - l) c:=(by rw[Q,I];rfl);obtain⟨news,ae,n2,n3,n4⟩:∃news:List aAd,news.length=ys.length*e.n/\e.j7 ys (Un F.S0 ρ O.d) w news/\(∀S,ad=some S->∀j u,news[j]? =some u->w.cell? (S.add j)=some u)/\(ad=none->news=[]):=by
    rcases r2 with rfl |⟨b3,an,ds,rfl,aj,ki⟩
    ·exact⟨[],by simp,rfl,fun _ _ j u h=>by simp at h,fun _=>rfl⟩
    ·exact⟨ds,cR ki,ki,fun S h=>by cases h;exact aj.cell,fun h=>by cases h⟩
   have L:min ys.length (zs.length - l)=ys.length:=(by omega);have m1:l*e.n+ys.length*e.n<=z.length:=(by rw[ZW,<-O8];exact xj _ (by omega));have K7:B++(z++C)=(B++z.take (l*e.n))++((z.drop (l*e.n)).take (ys.length*e.n)++(z.drop (l*e.n+ys.length*e.n)++C)):=by
    have:z=z.take (l*e.n)++((z.drop (l*e.n)).take (ys.length*e.n)++z.drop (l*e.n+ys.length*e.n)):=by
     rw[<-aDz,db,db]
    conv=>lhs;rw[this]
    simp only[H7]
   rw[K7] at h4;have M:=Gs (P:=F.P) (w:=w) (tt:=ty) (T:=T) (U:=U) (E:=E) (en:=e.n) (b:=b) (o:=B.length+l*e.n) (n:=zs.length - l) (c:=c) (m:=ys.length) (cap:=cy) (ad:=ad) (news:=news) hU hE h4
    (by simp only[sM,I8];omega) (by simp only[I8,Z2];omega) (by rw[L];exact ae) n3 n4 (Lz n2)
   rw[L] at M;refine done (w.setRow b ((B++z.take (l*e.n))++(news++(z.drop (l*e.n+ys.length*e.n)++C))).toArray) ?_ (.inl ⟨b,.inl (by rw[I];rfl),ee.setRow w b _,fun V=> .inr ⟨b,cap,B,z.take (l*e.n)++news++z.drop (l*e.n+ys.length*e.n),C,?_,?_,?_,?_,?_,?_⟩⟩)
   ·simp[execOp,resolve,invoke,builtin,D,r1,M]
   ·rw[I];simp only[sM,I8,Z2];congr 1;omega
   ·have:=setRow_heap w b _ ((B++z.take (l*e.n))++(news++(z.drop (l*e.n+ys.length*e.n)++C))).toArray T _ h4;rw[this];congr 3;simp
   ·refine gN (gN (Wr.XF (sZ l h5) V) (Wr.XF n2 V)) ?_;have ac:=Wr.XF (wE (l+ys.length) h5) V;rw[O8] at ac;exact ac
   ·simp only[sM,I8,Z2];omega
   ·simp only[sM,I8,Z2,ae];omega
   ·simp only[sM,I8,Z2];omega
theorem HY{pp q k n c o:Nat}{nk:Int}{A B:List α}{I:aAb}{kI:aAg}{kI':aAg}{ti:TypeInfo}{z0:aAd}{zv:α}(j:Nat)(h:dH O.g x=some (.D4 i o 0 n c))(he:aY O.d i=some (.dp (DE.P6 T e b) [.any pp,.rows A,.rows B,.any q] []))(hy:dH O.g y=some (.v (Wr.int kI) nk))
  (ho:o=pp) (hn:n=A.length) (hnk:nk=(k:Int)) (hk:0<k) (wh:c<n+k) (hlen:A.length+k<=4294967296) (J7:Nat.blt 0 e.n=true)
  (hU:∀w,(underlying U).run F.P w= .ok (.slice T) w) (hI:∀w,(underlying I).run F.P w= .ok (.int kI') w) (hi:∀w,(typeInfo T).run F.P w= .ok ti w) (hS:∀w,(sizeOf T).run F.P w= .ok e.n w) (hz:ti.zero=some z0) (jd:∀S w,e.ok zv S w z0.cells.toList) (ah:Nat.ble ti.bytes 4096=true):
  JO F ⟨d,.call ⟨.builtin .append,#[x,y],#[U,I]⟩,ty,p,af,gd⟩ O (.ref j) [(j,.arr T e (A++List.replicate k zv))]:=by
 subst ho hn hnk;have J7:1<=e.n:=by simpa[Nat.blt] using J7
 have ah:=E7 ah;intro ρ S a w K;obtain⟨h1,⟨cs,h2,Q,_,rfl,C,ca,_,rfl,R,cb,_,rfl,k5,au,_,rfl,G8,rfl⟩,a0,YI⟩:=Yw K (x:=x) (by simp[Op.operands,Call.operands]) h he;have C:Q.length=o:=C;have G:=cR R;have X:=(fY K (x:=y) (by simp[Op.operands,Call.operands]) hy).1;have av:ti.size=e.n:=Lu hi hS;have hm:XK w b o ca:=by
  have:=XK.sub (a:=Q) (c:=ca) (d:=cb++(au++[])) (XK.of_heap h2);simpa[C] using this
 have aa:∀j v,ca[j]? =some v->w.drew.cell? ((⟨b,o,none⟩:aAk).add j)=some v:=hm.cell;have ab:(Builtin.firstCells e.n A.length (.slice (some ⟨b,o,none⟩) A.length c)).run F.P w.drew= .ok ca.toArray w.drew:=run_firstCells_some (P:=F.P) w.drew e.n A.length ⟨b,o,none⟩ A.length c ca G aa;have ay:k*ti.bytes<=281474976710656:=by
  have:k*ti.bytes<=4294967296*4096:=aCu (by omega) ah;omega
 have U9:Builtin.nextslicecap (A.length+k) c*ti.bytes<=281474976710656:=growslice_fits (by omega) (by
  have:(A.length+k)*ti.bytes<=4294967296*4096:=aCu hlen ah
  omega)
 have D:(Builtin.append_ #[U,I] ty #[.slice (some ⟨b,o,none⟩) A.length c,.int kI k]).run F.P w=
   .ok (.slice (some ⟨w.heap.size,0,none⟩) (A.length+k) (grownCap w (A.length+k) c T))
    (w.drew.alloc (.cells (ca.toArray++Builtin.zeroCells z0.cells k++Builtin.zeroCells z0.cells (grownCap w (A.length+k) c T - (A.length+k))) T)):=by
  have tn:k≠0:=by omega
  have hw:IntKind.i64.wrap (k:Int)=k:=by rw[IntKind.wrap_i64];omega
  have hn:¬(A.length+k<=c):=by omega
  have ac:¬(9223372036854775807<((A.length:Int)+(k:Int))):=by omega
  have ad:¬(281474976710656<Builtin.nextslicecap (A.length+k) c*ti.bytes):=by omega
  have ae:¬(281474976710656<(k:Int)*(ti.bytes:Int)):=by
   rw[<-Int.natCast_mul];omega
  have ai:¬((k:Int)<0):=by omega
  have aj:¬(k*e.n=0):=Nat.mul_ne_zero tn (by omega);have am:∀w,(zeroValue T).run F.P w= .ok z0 w:=fun w=>by
   have:=hi w;simp[zeroValue,this,hz]
  simp[Builtin.append_,hU,hI,hS,hi,am,asInt,asIntOf,hw,hn,ai,aj,ac,ad,ae,Question.forced,ab,newRow,grownCap]
 have kg:=grownCap_ge w (A.length+k) c T;obtain⟨u,V⟩:∃u,u=(Builtin.zeroCells z0.cells (grownCap w (A.length+k) c T - (A.length+k))).toList:=⟨_,rfl⟩;have E:z0.cells.size=e.n:=by have:=e.len (jd (fun _=>False) w);simpa using this
 have H:(Builtin.zeroCells z0.cells k).toList.length=k*e.n:=by rw[ed,size_zeroCells,E]
 have U4:u.length=(grownCap w (A.length+k) c T - (A.length+k))*e.n:=by rw[V,ed,size_zeroCells,E]
 have an:∀S w,e.j7 (List.replicate k zv) S w (Builtin.zeroCells z0.cells k).toList:=fun S w=>Ez (jd S w) k _ H fun i hi=>Bo (by rw[E];exact hi);have ap:ca.toArray++Builtin.zeroCells z0.cells k++Builtin.zeroCells z0.cells (grownCap w (A.length+k) c T - (A.length+k))=([]++((ca++(Builtin.zeroCells z0.cells k).toList)++u)).toArray:=by
  apply Array.ext';simp[V]
 rw[ap] at D;obtain⟨w',z⟩:∃w',w'=w.drew.alloc (.cells ([]++((ca++(Builtin.zeroCells z0.cells k).toList)++u)).toArray T):=⟨_,rfl⟩;rw[<-z] at D;have L:Below w.heap.size w w':=by
  rw[z];exact Below.trans (b:=w.drew) ⟨rfl,rfl,rfl,ZY _,fun _ _=>rfl⟩ (lM w.drew _)
 refine XC.value (w':=w') (v:= .slice (some ⟨w.heap.size,0,none⟩) (A.length+k) (grownCap w (A.length+k) c T)) (by simp[execOp,resolve,invoke,builtin,h1,X,D]) ?_;refine zX (.slice (some ⟨w.heap.size,0,none⟩) (A.length+k) (grownCap w (A.length+k) c T)) L rfl ?_ ?_ ?_
 ·intro b' M;simp only[j1,E4] at M;subst M;exact⟨ZY _,by rw[z,World.size_alloc];exact Nat.lt_succ_self _⟩
 ·intro N ρ' hS' _;have tq:Ext S N w w':=Sg L hS';refine .inr ⟨w.heap.size,grownCap w (A.length+k) c T,[],ca++(Builtin.zeroCells z0.cells k).toList,u,by simp[LV.of],?_,gN (Wr.XF R tq) (an _ _),by simpa using kg,?_,by simp;omega⟩
  ·rw[z,show w.heap.size=w.drew.heap.size from rfl,heap_alloc_new]
  ·rw[sM,G,H,U4,<-O8,<-O8];exact xj _ (by omega)
 ·intro N ρ' _ hρ _;simp only[Slot.ok];exact⟨.inl ⟨_,_,_,hρ⟩,hρ.symm⟩
theorem Tc{P:aAe}{w:aAa}{tS tR E:aAb}{size b o la ca lb cb oa ba:Nat}{cs:List aAd}{c':Array aAd}{T':aAb}{fr:Nat×Nat}(hU:∀w,(underlying tS).run P w= .ok (.slice E) w)(hz:∀w,(sizeOf E).run P w= .ok size w)
  (j5:ba≠b) (hb:w.heap[b]? =some (.cells cs.toArray T (0,0))) (fp:cs≠ []) (ha:w.heap[ba]? =some (.cells c' T' fr)) (V2:c'.size≠0):
  (Extern.SlicesOverlaps.overlaps #[tS,tS] #[tR] #[.slice (some ⟨ba,oa,none⟩) la ca,.slice (some ⟨b,o,none⟩) lb cb]).run P w= .ok (.bool false) w:=by
 have B:(ba != b)=true:=by simpa using j5
 have C:(ba==b)=false:=by simpa using j5
 have D:∀o,w.frozen? ⟨b,o,none⟩=false:=fun o=>by simp[World.frozen?,hb]
 have u:w.shape? b=some (T,cs.length):=by simp[World.shape?,hb]
 have z:w.shape? ba=some (T',c'.size):=by simp[World.shape?,ha]
 obtain⟨h,G⟩:∃h,c'.size=h+1:=⟨c'.size - 1,by omega⟩;rw[G] at z;have F:∃m,cs.length=m+1:=⟨cs.length - 1,by have:=sb.2 fp;omega⟩;obtain⟨m,H⟩:=F;rw[H] at u
 change Sem.run P (α:=aAd) (do
  let some t:=(#[tS,tS]:Array aAb)[0]? | stuck "slices.overlaps: no parameter types"
  let .slice elem<-underlying t | stuck "slices.overlaps: slice type expected"
  let size<-sizeOf elem
  match (some ⟨ba,oa,none⟩:Option aAk),(some ⟨b,o,none⟩:Option aAk) with
  |some a,some b=>
   if la=0\/lb=0\/size=0 then pure (Value.bool false)
   else if a.block != b.block && (<-frozen a) && (<-frozen b) then unsupported .addressObserved
   else do
    if a.block != b.block then do
     noView a;noView b
     if<-mayBeOne a b then return Value.bool ((<-choose (.extern "sameAddr.stringBytes" 2))==1)
    pure (Value.bool (a.block==b.block && a.off<b.off+lb*size && b.off<a.off+la*size))
  |_,_=>pure (Value.bool false)) w=_
 by_cases A:la=0\/lb=0\/size=0
 ·simp[hU,hz,A]
 ·cases hfa:w.frozen? ⟨ba,oa,none⟩<;>cases bBe:w.frozen? ⟨ba,h+1,none⟩<;>
   simp[hU,hz,A,B,C,frozen,noView,viewAt,mayBeOne,stringish,shape,Sem.run,z,u,D,hfa,bBe]
theorem Vf{f:aAf}{fn:Func}{vs:List α}{o n c pp q:Nat}{A B:List α}{ts:Array aAb}{R:aAb}(hf:F.P.funcs[f]? =some fn)(aQ0:(fn.name== "runtime.NumGoroutine")=false) (hb:fn.body.isNone=true) (hn:Extern.findNext fn=none)
  (bBi:Extern.find fn=some (Extern.SlicesOverlaps.overlaps #[U,U] #[R])) (hx:dH O.g x=some (.v (Wr.sl e) vs)) (hy:dH O.g y=some (.D4 i o 0 n c)) (he:aY O.d i=some (.dp (DE.P6 T e b) [.any pp,.rows A,.rows B,.any q] [])) (hvs:vs≠ []) (hB:B≠ []) (J7:Nat.blt 0 e.n=true)
  (hU:∀w,(underlying U).run F.P w= .ok (.slice T) w) (hE:∀w,(sizeOf T).run F.P w= .ok e.n w):JO F ⟨d,.call ⟨.value (.func f),#[x,y],ts⟩,ty,p,af,gd⟩ O (.v Wr.bool false) []:=by
 have J7:1<=e.n:=by simpa[Nat.blt] using J7
 intro ρ S a w K;obtain⟨ad,aa,z,_,h2⟩:=HK K (x:=x) (by simp[Op.operands,Call.operands]) hx;obtain⟨C,⟨cs,g2,g3⟩,g4,g5⟩:=Yw K (x:=y) (by simp[Op.operands,Call.operands]) hy he;obtain⟨b1,ab,ds,rfl,k1,k2,k3,k4⟩:=h2.resolve_left hvs;obtain⟨c',T',fr,k5,k6⟩:=k3;have D:=cR k4;have E:=sb.2 hvs;have G:0<ds.length:=by rw[D];exact Nat.mul_pos E J7
 have H:c'.size≠0:=by
  intro h0;have:=k6 0 G;rw[aBv (by omega)] at this;cases this
 have I:cs≠ []:=by
  rintro rfl;obtain⟨ac,_,h,_,ca,_,rfl,_,cb,_,rfl,h5,_⟩:=g3;have L:=cR h5;have M:=sb.2 hB;have:0<cb.length:=by rw[L];exact Nat.mul_pos M J7
  have N:=congrArg List.length h;simp only[sM,ak] at N;omega
 have Q:=Tc (P:=F.P) (w:=w) (T:=T) (tS:=U) (tR:=R) (size:=e.n) (la:=vs.length) (ca:=aa) (lb:=n) (cb:=c) (oa:=ab) (o:=o) hU hE (fun X=>k2 (by rw[X];exact g4)) g2 I k5 H;have u:=run_callFunc_extern hf aQ0 hb hn bBi #[a.eval x,a.eval y] w;rw[z,C] at u;rw[Q] at u;refine XC.value (w':=w) (v:= .bool false) ?_ (ZC.same (nR _ ρ S w));have V:(execOp a.eval ⟨d,.call ⟨.value (.func f),#[x,y],ts⟩,ty,p,af,gd⟩).run F.P w=(callFunc f #[a.eval x,a.eval y]).run F.P w:=by
  simp[execOp,resolve,invoke,Deferred.ofValue,Act.eval]
 rw[V,z,C,u];rfl
def ins{α:Type}(xs:List α)(n:Int)(vs:List α):Option (List α):=if 0<=n/\n<=xs.length/\xs.length+vs.length<=4294967296 then some (xs.take n.toNat++(vs++xs.drop n.toNat)) else none
theorem HZ{α:Type}{xs vs r:List α}{n:Int}(h:ins xs n vs=some r):0<=n/\n<=xs.length/\xs.length+vs.length<=4294967296/\r=xs.take n.toNat++(vs++xs.drop n.toNat):=by
 unfold ins at h;split at h
 ·rename_i u;exact⟨u.1,u.2.1,u.2.2,by cases h;rfl⟩
 ·cases h
theorem BP{v:aAd}{S w u}:Wr.raw.val v S w u↔u=v/\v.oneCell'=true:=by
 constructor
 ·rintro⟨z,⟨rfl,h⟩,rfl⟩;exact⟨rfl,h⟩
 ·rintro⟨rfl,h⟩;exact⟨[u],⟨rfl,h⟩,rfl⟩
theorem DX{o n c:Nat}{E:aAb}(hx:dH O.g x=some (.D4 i o 0 n c))(hU:∀w,(underlying U).run F.P w= .ok (.slice E) w):JO F ⟨d,.call ⟨.builtin .cap,#[x],#[U]⟩,ty,p,af,gd⟩ O (.v Wr.raw (.int .i64 (c:Int))) []:=by
 intro ρ S a w K;obtain⟨b,_,u⟩:=rW (K.slot x (by simp[Op.operands,Call.operands]) _ hx);refine XC.value (w':=w) (v:= .int .i64 (c:Int)) ?_ (ZC.same (by simp only[Slot.ok];exact BP.2 ⟨rfl,rfl⟩));have h:(Builtin.cap_ #[U] ty #[.slice (some ⟨b,o,none⟩) n c]).run F.P w= .ok (.int .i64 c) w:=by simp[Builtin.cap_,hU,goInt]
 simp[execOp,resolve,invoke,builtin,u,h]
theorem DY{m n:Int}{T T':aAb}(hx:dH O.g x=some (.v (Wr.int .i64) m))(hy:dH O.g y=some (.v Wr.raw (.int .i64 n))):JO F ⟨d,.binOp .gtr T x y T',ty,p,af,gd⟩ O (.v Wr.bool (cm .gtr m n)) []:=by
 intro ρ S a w K;have u:=(fY K (x:=x) (by simp[Op.operands]) hx).1;have h:=K.slot y (by simp[Op.operands]) _ hy;simp only[Slot.ok] at h;have h:=(BP.1 h).1;refine XC.value (w':=w) (v:= .bool (cm .gtr m n)) ?_ (ZC.same (nR _ ρ S w));simp[execOp,u,h,eqGuard,Go.binOp,Op.intCmp,cm]
end
end Go.Sw
namespace Go.Sw
open Go Go.RowKit
def kp{α:Type}[DecidableEq α]:List α->α->Option Nat
 | [],_=>none
 |a::l,k=>if a=k then some 0 else (kp l k).map (·+1)
theorem IA{α:Type}[DecidableEq α]{k:α}:∀{l:List α} {i:Nat},kp l k=some i->i<l.length/\l[i]? =some k
 | [],i,h=>by simp[kp] at h
 |a::l,i,h=>by
  simp only[kp] at h;split at h
  ·rename_i u;cases h;simp[u]
  ·cases hr:kp l k with
   |none=>rw[hr] at h;cases h
   |some j=>rw[hr] at h;cases h;obtain⟨A,z⟩:=IA hr;exact⟨by simp;omega,by simpa using z⟩
theorem BR{α β:Type}[DecidableEq α]{k:α}:∀{m:List (α×β)},fR m k=(kp (m.map (·.1)) k).bind fun i=>(m[i]?).map (·.2)
 | []=>rfl
 | (a,b)::m=>by
  simp only[fR,L4,kp];split
  ·simp
  ·rw[BR (m:=m)];cases kp (m.map (·.1)) k<;>simp
def X1{α:Type}(e:Wr α)(S:Nat->Prop)(w:aAa):List α->List MapEntry->Prop
 | [],[]=>True
 |k::ks,x::xs=>e.val k S w x.key/\X1 e S w ks xs
 |_,_=>False
theorem X1.mono{α:Type}{e:Wr α}{S S':Nat->Prop}{w w':aAa}(k:Ext S S' w w'):∀{m:List α} {xs:List MapEntry},X1 e S w m xs->X1 e S' w' m xs
 | [],[],_=>trivial
 |_::_,_::_,⟨u,z⟩=>⟨gT u k,X1.mono k z⟩
 | [],_::_,h=>h.elim
 |_::_,[],h=>h.elim
theorem X1.len{α:Type}{e:Wr α}{S:Nat->Prop}{w:aAa}:∀{m:List α} {xs:List MapEntry},X1 e S w m xs->xs.length=m.length
 | [],[],_=>rfl
 |_::_,_::_,⟨_,u⟩=>by simp[u.len]
 | [],_::_,h=>h.elim
 |_::_,[],h=>h.elim
theorem X1.get{α:Type}{e:Wr α}{S:Nat->Prop}{w:aAa}:∀{m:List α} {xs:List MapEntry},X1 e S w m xs->∀{i:Nat} {k:α} {x:MapEntry},m[i]? =some k->xs[i]? =some x->e.val k S w x.key
 | [],[],_,i,k,x,h,_=>by simp at h
 |_::_,_::_,⟨z,A⟩,i,k,x,h,u=>by
  cases i with
  |zero=>simp at h u;subst h;subst u;exact z
  |succ i=>exact A.get (by simpa using h) (by simpa using u)
 | [],_::_,h,_,_,_,_,_=>h.elim
 |_::_,[],h,_,_,_,_,_=>h.elim
theorem X1.push{α:Type}{e:Wr α}{S:Nat->Prop}{w:aAa}{k:α}{x:MapEntry}(h1:e.val k S w x.key):∀{m:List α} {xs:List MapEntry},X1 e S w m xs->X1 e S w (m++[k]) (xs++[x])
 | [],[],_=>⟨h1,trivial⟩
 |_::_,_::_,⟨u,z⟩=>⟨u,X1.push h1 z⟩
 | [],_::_,h=>h.elim
 |_::_,[],h=>h.elim
theorem X1.modify{α:Type}{e:Wr α}{S:Nat->Prop}{w:aAa}{f:MapEntry->MapEntry}:∀{m:List α} {xs:List MapEntry} {i:Nat},X1 e S w m xs->(∀k x,m[i]? =some k->xs[i]? =some x->e.val k S w (f x).key)->X1 e S w m (xs.modify i f)
 | [],[],i,_,_=>by simp[X1]
 |_::_,_::_,i,⟨B,u⟩,h=>by
  cases i with
  |zero=>exact⟨h _ _ rfl rfl,u⟩
  |succ i=>exact⟨B,u.modify fun k x z A=>h k x (by simpa using z) (by simpa using A)⟩
 | [],_::_,_,h,_=>h.elim
 |_::_,[],_,h,_=>h.elim
theorem Vg{α:Type}[DecidableEq α]{n:Nat}{P:aAe}{T:aAb}{e:Wr α}(hn:n<=10000)(he:ao n P T e){S S':Nat->Prop}{w1 w2:aAa}{k:α}{cs:List aAd}(hk:e.ok k S' w2 cs)(w:aAa):
  ∀(m:List α) (es:List MapEntry) (i:Nat),X1 e S w1 m es->(Instr.findAsking T (e.pk cs) es i).run P w= .ok ((kp m k).bind fun j=>(es[j]?).map fun x=>(i+j,x.val)) w
 | [],[],i,_=>by simp[Instr.findAsking,kp]
 |a::m,x::xs,i,⟨⟨C,D,E⟩,F⟩=>by
  obtain⟨r,A,B⟩:=he 10000 hn w S' S w2 w1 k a cs C hk D;rw[<-E] at A;have z:(Op.equal T (e.pk cs) x.key).run P w= .ok r w:=A;cases r with
  |true=>
   have u:=B.1 rfl;simp[Instr.findAsking,z,kp,u]
  |false=>
   have u:¬a=k:=fun h=>by have:=B.2 h.symm;cases this
   have:=Vg hn he hk w m xs (i+1) F;simp only[Instr.findAsking,Sem.run_bind,z,Result.andThen_ok,V6,r5,this,kp,XV u];cases kp m k with
   |none=>rfl
   |some j=>simp[aDu,aDg 1 j]
 | [],_::_,_,h=>h.elim
 |_::_,[],_,h=>h.elim
theorem IB{α:Type}[DecidableEq α]{n l:Nat}{E:aAb}{P:aAe}{T:aAb}{e:Wr α}(hn:n<=10000)(hT:∀w,(underlying T).run P w= .ok (.array l E) w)(he:ao n P T e){S S':Nat->Prop}{w1 w2:aAa}{k:α}{cs:List aAd}(hk:e.ok k S' w2 cs)(w:aAa)
  (m:List α) (es:List MapEntry) (h:X1 e S w1 m es):(Instr.findKey T (e.pk cs) es).run P w= .ok ((kp m k).bind fun j=>(es[j]?).map fun x=>(j,x.val)) w:=by
 match m,es,h with
 | [],[],_=>simp[Instr.findKey,hT,Instr.findNow,kp]
 |q::m,x::xs,h=>
  have u:=Vg hn he hk w (q::m) (x::xs) 0 h;simp only[aC5] at u;simp only[Instr.findKey,Sem.run_bind,hT,Result.andThen_ok,Instr.findNow,Instr.sameNow,u]
def kv{α:Type}(e:Wr α):Prop:=∀(x:α) (S S':Nat->Prop) (w w':aAa) (v v':aAd),e.val x S w v->e.val x S' w' v'->Instr.sameBits 10000 v v'=true
theorem BS{k:aAg}{S S':Nat->Prop}{w w':aAa}:∀{xs:List Int} {cs ds:List aAd},(Wr.int k).j7 xs S w cs->(Wr.int k).j7 xs S' w' ds->ds=cs/\∀c∈cs,∃n,c= .int k n
 | [],_,_,h,z=>by simp only[Wr.j7] at h z;subst h;subst z;exact⟨rfl,by simp⟩
 |x::xs,_,_,⟨c,d,A,F,G⟩,⟨H,M,I,K,L⟩=>by
  obtain⟨D,E⟩:=BS G L;have B:c=[.int k x]:=F.1;have C:H=[.int k x]:=K.1;subst B;subst C;subst D;refine⟨by rw[A,I],?_⟩;rw[A];intro q u;rcases S9.1 u with u | u
  ·exact⟨x,by simpa using u⟩
  ·exact E q u
theorem kv.arr{k:aAg}{m:Nat}:kv (Wr.arr m (Wr.int k)):=by
 rintro x S F w G v H ⟨I,h,rfl⟩ ⟨C,D,rfl⟩;obtain⟨rfl,A⟩:=BS h.2 D.2;have B:∀l:List aAd,(∀c∈l,∃n,c= .int k n)->(l.zip l).all (fun (x,y)=>Instr.sameBits 9999 x y)=true:=by
  intro l z;rw[y8];rintro⟨a,b⟩ u;have:a=b:=by
   clear z A
   induction l with
   |nil=>simp at u
   |cons y l E=>
    rcases B1.1 u with h | h
    ·simp only[V5] at h;rw[h.1,h.2]
    ·exact E h
  subst this;obtain⟨n,rfl⟩:=z a (List.of_mem_zip u).1;simp[Instr.sameBits]
 have:=B C A;simp only[Wr.pk,Wr.arr,r7];show Instr.sameBits (9999+1) _ _=true;simp only[Instr.sameBits,BEq.rfl,aEt];simpa using this
structure qd {α κ:Type} (fr:Bool) (ke:Wr κ) (T2:aAb) (e:Wr α) (m:List (κ×List α)) (o:Option Nat) (S:Nat->Prop) (w:aAa) (x:Nat->Prop) (b:Nat) (es:List MapEntry) (ck:Nat):Prop where
 keys:X1 ke S w (m.map (·.1)) es
 rows:Rws T2 e (m.map (·.2)) o S w x (some b) (es.map (·.val))
 born:fr=true->ck=es.length/\∀(j:Nat) (q:MapEntry),es[j]? =some q->q.born=j
theorem qd.mono{α κ:Type}{fr:Bool}{ke:Wr κ}{T2:aAb}{e:Wr α}{m:List (κ×List α)}{o:Option Nat}{S S':Nat->Prop}{w w':aAa}{x x':Nat->Prop}{b:Nat}{es:List MapEntry}{ck:Nat}
  (h:qd fr ke T2 e m o S w x b es ck) (hE:Ext S S' w w') (hx:∀b,x b->x' b) (hb:∀b,x b->w'.heap[b]? =w.heap[b]?):qd fr ke T2 e m o S' w' x' b es ck:=
 ⟨h.keys.mono hE,⟨h.rows.len,fun j xs q u A z=>(h.rows.ok j xs q u A z).mono hE (fun b B=>hb b (h.rows.own j q b u z B).1),fun j q k u A z=>⟨hx _ (h.rows.own j q k u A z).1,(h.rows.own j q k u A z).2⟩,h.rows.inj⟩,h.born⟩
def DE.Z9{α κ:Type}(fr:Bool)(ke:Wr κ)(T2:aAb)(e:Wr α):DE (List (κ×List α)×Option Nat) where
 ok q S w u l:=∃b z A,u.v= .map (some b)/\w.heap[b]? =some (.map z A)/\qd fr ke T2 e q.1 q.2 S w u.x b z.toList A/\∀j,q.2=some j->(z.toList.map (·.val))[j]? =l.head?
 mono:=by
  rintro q S I w K u l ⟨b,z,A,B,E,F,G⟩ H C;exact⟨b,z,A,B,by rw[C b (.inl (by rw[B];rfl))];exact E,F.mono H (fun _ h=>h) (fun D h=>C D (.inr h)),G⟩
def Td{κ α:Type}[DecidableEq κ](m:List (κ×List α))(k:κ):Option (List (κ×List α)×Nat×List α):=
 if m.length<=140737488355328 then some (match kp (m.map (·.1)) k with | none=>(m++[(k,[])],m.length,[]) | some i=>(m,i,((m[i]?).map (·.2)).getD [])) else none
def wO{κ β:Type}(m:List (κ×β))(i:Nat)(v:β):List (κ×β):=m.modify i fun p=>(p.1,v)
theorem IC{κ β:Type}{m:List (κ×β)}{i:Nat}{v:β}:(wO m i v).map (·.1)=m.map (·.1):=by
 apply aCc;intro j;simp only[wO,oe,aB6];cases m[j]? <;>simp;split<;>rfl
theorem ID{κ β:Type}{m:List (κ×β)}{i:Nat}{v:β}:(wO m i v).map (·.2)=(m.map (·.2)).set i v:=by
 apply aCc;intro j;simp only[wO,oe,aB6,aCq,oc];by_cases u:j<m.length
 ·rw[J0 u];by_cases h:i=j<;>simp[h,u]
 ·rw[dc (by omega)];by_cases h:i=j<;>simp[h];omega
def Wr.bd{κ β:Type}(ke:Wr κ)(f:Wr β):Wr (List (κ×β)) where
 n:=1
 agg:=false
 ok m S w cs:=(m=[]/\cs=[.map none])\/∃b u z,cs=[.map (some b)]/\b<w.heap.size/\¬S b/\w.heap[b]? =some (.map u z)/\Ye ke f S w m u.toList
 len h:=by rcases h with⟨_,h⟩|⟨b,u,z,h,_⟩<;>rw[h]<;>rfl
 one _:=rfl
 cell h c hc:=by rcases h with⟨_,h⟩|⟨b,u,z,h,_⟩<;>rw[h] at hc<;>simp at hc<;>subst hc<;>rfl
 mono h k:=by
  rcases h with⟨h,C⟩|⟨b,u,z,D,A,B,E,F⟩
  ·exact .inl ⟨h,C⟩
  ·exact .inr ⟨b,u,z,D,X0 A k.size,(k.M1 b A B).2,by rw[(k.M1 b A B).1];exact E,zU k F⟩
theorem Z.bd{κ β:Type}(ke:Wr κ)(f:Wr β):∀S w,(Wr.bd ke f).ok [] S w [.map none]:=fun _ _=> .inl ⟨rfl,rfl⟩
section
variable {F:YP}{O:AS}{d:Option Tmp}{ty:aAb}{p:String}{af:Array Edge}{gd:Option (Nat×Bool)}{x y z:aAc}{κ α:Type}{ke:Wr κ}{e:Wr α}{T2:aAb}{m:List (κ×List α)}{i j:Nat}
theorem Frz.Z9{fr:Bool}:Frz (DE.Z9 fr ke T2 e) (m,none) (Wr.bd ke (Wr.sl e)) m:=by
 rintro S S' w u ⟨b,H,ck,E,F,⟨h3,I,_⟩,_⟩ K L;have M:∀(A:List (κ×List α)) (el:List MapEntry),X1 ke S w (A.map (·.1)) el->(∀(j:Nat) (C:List α) (v:aAd),(A.map (·.2))[j]? =some C->(el.map (·.val))[j]? =some v->p4 T2 e C S w v/\∀b,j1 v=some b->u.x b)->Ye ke (Wr.sl e) S' w A el:=by
  intro A
  induction A with
  |nil=>intro el z _;cases el with
   |nil=>trivial
   |cons q el=>exact z.elim
  |cons q A ih=>
   intro el z h;cases el with
   |nil=>exact z.elim
   |cons v el=>
    obtain⟨G,U⟩:=h 0 q.2 v.val rfl rfl;obtain⟨V,X⟩:=z;obtain⟨q1,q2⟩:=q;obtain⟨ad,c,hs⟩:=G.slice;refine⟨gT V K,⟨[v.val],Sk (ρ:=fun _=> .of undef) (u:= .of v.val) (T:=T2) G K fun b D=>L b (.inr (U b (pN.1 D))),by simp[Wr.pk,Wr.sl]⟩,ih el X fun j O P Q B=>h (j+1) O P (by simpa using Q) (by simpa using B)⟩
 have z:=M m H.toList h3 fun j C v R B=>⟨I.ok j C v (by simp) R B,fun b D=>(I.own j v b (by simp) B D).1⟩;have N:b<w.heap.size:=by
  rcases R8 b w.heap.size with h | h
  ·exact h
  ·rw[aBv h] at F;cases F
 refine⟨.inr ⟨b,H,ck,by rw[E],N,L b (.inl (by rw[E];rfl)),F,z⟩,by rw[E];rfl⟩
theorem Vh{T:aAb}(i:Nat)(ke:Wr κ)(T2:aAb)(e:Wr α):JO F ⟨d,.makeMap T none,ty,p,af,gd⟩ O (.ref i) [(i,.dp (DE.Z9 true ke T2 e) ([],none) [])]:=by
 intro ρ S a w K;refine XC.value (w':=w.alloc (.map #[] 0)) (v:= .map (some w.heap.size)) (by simp[execOp,Instr.makeMap]) ?_;refine zX (.map (some w.heap.size)) (lM _ _) rfl ?_ ?_ ?_
 ·intro b z;simp[j1] at z;subst z;exact⟨ZY _,by simp⟩
 ·intro A ρ' h _;exact⟨_,#[],0,rfl,heap_alloc_new _ _,⟨trivial,⟨rfl,fun j xs q _ u=>by simp at u,fun j q k _ u=>by simp at u,fun j B q C k _ _ u=>by simp at u⟩,fun _=>⟨rfl,fun j q h=>by simp at h⟩⟩,fun j h=>by cases h⟩
 ·intro A ρ' _ hi _;simp only[Slot.ok];exact⟨by rw[hi];exact .inr ⟨_,rfl⟩,hi.symm⟩
theorem Yx{β:Type}[DecidableEq κ]{n n' l:Nat}{M KT VT E:aAb}{f:Wr β}{m:List (κ×β)}{k:κ}{u:β}{zv:aAd}(hx:dH O.g x=some (.v (Wr.bd ke f) m))(hy:dH O.g y=some (.v ke k))
  (hM:∀w,(underlying M).run F.P w= .ok (.map KT VT) w) (hT:∀w,(underlying KT).run F.P w= .ok (.array l E) w) (he:ao n F.P KT ke) (hn:Nat.ble n 10000=true) (hk:B8 n' F.P KT ke) (M3:Nat.ble n' 10000=true)
  (hz:∀w,(zeroValue VT).run F.P w= .ok zv w) (jd:∀S w,f.val u S w zv):JO F ⟨d,.lookup M x y false,ty,p,af,gd⟩ O (.v f ((fR m k).getD u)) []:=by
 intro ρ S a w K;have z:=K.slot x (by simp[Op.operands]) _ hx;have h:=K.slot y (by simp[Op.operands]) _ hy;simp only[Slot.ok] at z h;obtain⟨G,h,C⟩:=h;obtain⟨X,z,H⟩:=z;rcases z with⟨rfl,rfl⟩|⟨b,L,ck,rfl,_,_,T,U⟩
 ·have A:=hk 10000 (E7 M3) true w S w k G h;refine XC.value (w':=w) (v:=zv) ?_ (ZC.same (by simp only[Slot.ok];exact jd _ _));have B:a.eval x= .map none:=H;simp[execOp,B,C,Instr.lookup,hM,A,hz,Instr.findKey,hT,Instr.findNow]
 ·have B:a.eval x= .map (some b):=H;obtain⟨r,I,N,Q⟩:=Jk (E7 hn) hT he h w m L.toList U;have A:=hk 10000 (E7 M3) L.isEmpty w S w k G h;have D:=MapKept.run_getObj_map (P:=F.P) T;cases hm:fR m k with
  |none=>
   have:=N hm;subst this;refine XC.value (w':=w) (v:=zv) ?_ (ZC.same (by simp only[Slot.ok];exact jd _ _));simp[execOp,B,C,Instr.lookup,hM,D,A,I,hz]
  |some V=>
   obtain⟨j,v,rfl,R⟩:=Q V hm;refine XC.value (w':=w) (v:=v) ?_ (ZC.same (by simp only[Slot.ok];exact R));simp[execOp,B,C,Instr.lookup,hM,D,A,I]
theorem Vi[DecidableEq κ]{n n' l:Nat}{M KT VT E:aAb}{k:κ}{r:List (κ×List α)×Nat×List α}(j:Nat)(hm:Td m k=some r)(hx:dH O.g x=some (.ref i))(hd:aY O.d i=some (.dp (DE.Z9 true ke T2 e) (m,none) []))(hy:dH O.g y=some (.v ke k))
  (hM:∀w,(underlying M).run F.P w= .ok (.map KT VT) w) (hT:∀w,(underlying KT).run F.P w= .ok (.array l E) w) (he:ao n F.P KT ke) (hn:Nat.ble n 10000=true) (hk:B8 n' F.P KT ke) (M3:Nat.ble n' 10000=true) (K8:kv ke)
  (hz:∀w,(zeroValue VT).run F.P w= .ok (.slice none 0 0) w) (hf:O.free [(j,.arr T2 e r.2.2)]=true) (p8:gS d F.N=true):
  JM F ⟨d,.mapEntry M x y,ty,p,af,gd⟩ O ⟨iV d (.XU [.ref j,.v (Wr.int .i64) (r.2.1:Int)]) O.g,(j,.arr T2 e r.2.2)::(i,.dp (DE.Z9 true ke T2 e) (r.1,some r.2.1) [j])::O.d⟩:=by
 rintro a w ⟨⟨ρ,hc,hs⟩,B4,j4⟩;have K:=cK hc hs (Op.mapEntry M x y).operands;obtain⟨h1,⟨b,B,ck,h3,h4,A,_⟩,_⟩:=yW K (x:=x) (by simp[Op.operands]) hx hd;have V:=K.slot y (by simp[Op.operands]) _ hy;simp only[Slot.ok] at V;have ll:=V;obtain⟨cs,V,h7⟩:=V;have h8:=IB (E7 hn) hT he V w (m.map (·.1)) B.toList A.keys;have rf:=hk 10000 (E7 M3) false w _ w k cs V;have hg:=MapKept.run_getObj_map (P:=F.P) h4;have pf:=fun o=>MapKept.run_setObj_map (P:=F.P) o h4;have ib:=lD hf (i:=j) (en:= .arr T2 e r.2.2) (by simp[aY]);have F7:j≠i:=fun e=>by subst e;rw[ib.2.1] at hd;cases hd
 obtain⟨we,ft⟩:=A.born rfl;have X:B.toList.length=m.length:=by simpa using A.keys.len
 unfold Td at hm;split at hm
 case isFalse=>cases hm
 rename_i o6;have hm:=pT hm;obtain⟨G,ab,v,K9,J6,vv,a4,U,R2,ba⟩:∃(G:Array MapEntry) (ab:Nat) (v:aAd),(execOp a.eval ⟨d,.mapEntry M x y,ty,p,af,gd⟩).run F.P w= .ok (.value (.tuple #[v,.int .i64 (r.2.1:Int)])) { w with heap:=w.heap.setIfInBounds b (.map G ab) }/\
   (∃a c,v= .slice a r.2.2.length c)/\(∀S' w',Ext (Un F.S0 ρ O.d) S' w w'->X1 ke S' w' (r.1.map (·.1)) G.toList)/\G.toList.length=r.1.length/\(G.toList.map (·.val))[r.2.1]? =some v/\
   ((v= .slice none 0 0/\r.2.2=[]/\(∀q,q≠r.2.1->r.1[q]? =m[q]?/\(G.toList.map (·.val))[q]? =(B.toList.map (·.val))[q]?))\/(m[r.2.1]?.map (·.2)=some r.2.2/\r.1=m/\G.toList.map (·.val)=B.toList.map (·.val)))/\
   (ab=G.toList.length/\∀(j:Nat) (q:MapEntry),G.toList[j]? =some q->q.born=j):=by
  cases hkp:kp (m.map (·.1)) k with
  |none=>
   rw[hkp] at hm h8;simp only[Option.bind_none] at h8;simp only at hm;subst hm;refine⟨B.push { key:=a.eval y,val:= .slice none 0 0,born:=ck },ck+1,.slice none 0 0,?_,⟨none,0,rfl⟩,?_,?_,?_,.inl ⟨rfl,rfl,fun q z=>?_⟩,?_,?_⟩
   ·have:ck=m.length:=(by rw[we,X]);simp[execOp,h1,h3,h7,Instr.mapEntry,hM,hg,rf,h8,pf,hz,goInt,this]
   ·intro S' w' L;rw[aDl,aCr];exact(A.keys.mono L).push (gT ll L)
   ·simp[X]
   ·simp[<-X]
   ·rw[aDl,aCr];have I:q≠m.length:=z;rcases R8 q m.length with h | h
    ·rw[aBu h,aBu (by simpa[X] using h)];exact⟨rfl,rfl⟩
    ·rw[dc (by simp;omega),dc (by omega),dc (by simp at X ⊢;omega),dc (by simp at X ⊢;omega)];exact⟨rfl,rfl⟩
   ·simp[we]
   ·intro q x z;rw[aDl] at z;rcases R8 q B.toList.length with h | h
    ·rw[aBu h] at z;exact ft q x z
    ·rw[aDq h] at z;have h0:q - B.toList.length=0:=by
      rcases aEk (q - B.toList.length) with h | h
      ·exact h
      ·rw[dc (by simp at h ⊢;omega)] at z;cases z
     rw[h0] at z;simp at z;subst z;show ck=q;omega
  |some q=>
   rw[hkp] at hm h8;simp only at hm;subst hm;obtain⟨k1,k2⟩:=IA hkp;have au:q<m.length:=(by simpa using k1);have k3:q<B.toList.length:=(by omega);have ah:q<B.size:=(by simpa using k3);have k5:B.toList[q]? =some B[q]:=(by simp[ah]);simp only[cM,k5,tw] at h8;have k6:B[q]? =some B[q]:=aBt ah;have a5:ke.val k (Un F.S0 ρ O.d) w B[q].key:=A.keys.get k2 k5;have a6:=K8 k _ _ _ _ _ _ a5 ll;have ZM:(Instr.keyThatStays B[q].key (a.eval y)).run F.P w= .ok (a.eval y) w:=(by simp[Instr.keyThatStays,a6]);have kk:=ft q _ k5;have kn:=A.rows.ok q (m[q].2) B[q].val (by simp) (by simp[au]) (by simp[ah]);have ay:m[q]? =some m[q]:=J0 au;refine⟨B.modify q fun e=>{ e with key:=a.eval y },ck,B[q].val,?_,?_,?_,?_,?_,.inr ⟨?_,rfl,?_⟩,?_,?_⟩
   ·simp[execOp,h1,h3,h7,Instr.mapEntry,hM,hg,rf,h8,pf,goInt,k6,kk];rw[<-h7,ZM];simp[pf]
   ·simp only[ay,tw,aCe];exact kn.slice
   ·intro S' w' L;rw[aCh];exact(A.keys.mono L).modify fun k' x a3 S=>by
     rw[k2] at a3;cases a3;exact gT ll L
   ·simpa using X
   ·rw[aCh,oe,aB6,k5];simp
   ·simp[ay]
   ·rw[aCh];apply aCc;intro R;simp only[oe,aB6];cases B.toList[R]? <;>simp;split<;>rfl
   ·simpa using we
   ·intro R x' I;rw[aCh,aB6] at I;cases S:B.toList[R]? with
    |none=>rw[S] at I;cases I
    |some y'=>
     rw[S] at I;have:=ft R y' S;simp only[Option.map_eq_map,tw,E4] at I;subst I;split<;>exact this
 obtain⟨av,cv,m7⟩:=J6;have J7:r.2.1<r.1.length:=by
  rw[<-a4];rcases R8 r.2.1 G.toList.length with h | h
  ·exact h
  ·rw[dc (by simpa using h)] at U;cases U
 have a7:Dh .i64 (r.2.1:Int):=by
  have:r.1.length<=m.length+1:=by
   rcases R2 with⟨_,_,h⟩|⟨_,h,_⟩
   ·rcases R8 (m.length+1) r.1.length with C | C
    ·have H:=(h (m.length) );have nq:=(h (m.length+1));by_cases np:m.length=r.2.1
     ·have:=(nq (by omega)).1;rw[J0 C,dc (by omega)] at this;cases this
     ·have:=(H np).1;rw[J0 (by omega),dc (by omega)] at this;cases this
    ·exact C
   ·rw[h];omega
  exact Dl (n:=r.2.1) (by omega)
 have y6:=MapKept.heap_set (o':= .map G ab) h4;have fq:w7 (some b) w { w with heap:=w.heap.setIfInBounds b (.map G ab) }:=⟨by simp,fun k _ hk=>y6.2 k (fun e=>hk (by rw[e])),rfl,rfl,rfl⟩;refine XC.value K9 ?_;have E0:∀c,j1 v=some c->(ρ i).x c/\c≠b:=by
  intro c u;rcases R2 with⟨rfl,_⟩|⟨_,_,h⟩
  ·simp[j1] at u
  ·rw[h] at U;obtain⟨k1,k2⟩:=A.rows.own _ v c (by simp) U u;exact⟨k1,fun e=>k2 (by rw[e])⟩
 let ρ':Nat->LV:=fun l=>if l=j then .of v else if l=i then ⟨(ρ i).v,fun b=>(ρ i).x b/\j1 v≠some b⟩ else ρ l
 have rj:ρ' j= .of v:=YC rfl;have ri:ρ' i=⟨(ρ i).v,fun b=>(ρ i).x b/\j1 v≠some b⟩:=by show (if i=j then _ else _)=_;rw[XV (kq F7),YC rfl]
 have Q:∀l,l≠j->l≠i->ρ' l=ρ l:=fun l h1 h2=>by show (if l=j then _ else _)=_;rw[XV h1,XV h2]
 have rv:∀l,l≠j->(ρ' l).v=(ρ l).v:=fun l h1=>by
  by_cases h2:l=i
  ·subst h2;rw[ri]
  ·rw[Q l h1 h2]
 have hl:∀l en,aY ((j,.arr T2 e r.2.2)::(i,.dp (DE.Z9 true ke T2 e) (r.1,some r.2.1) [j])::O.d) l=some en->(l=j/\en= .arr T2 e r.2.2)\/(l=i/\en= .dp (DE.Z9 true ke T2 e) (r.1,some r.2.1) [j])\/(l≠j/\l≠i/\aY O.d l=some en):=by
  intro l en h;rcases Hy h with h |⟨h0,h⟩
  ·exact .inl h
  ·rcases Hy h with h |⟨A,h⟩
   ·exact .inr (.inl h)
   ·exact .inr (.inr ⟨h0,A,h⟩)
 have m6:∀l en b,aY ((j,.arr T2 e r.2.2)::(i,.dp (DE.Z9 true ke T2 e) (r.1,some r.2.1) [j])::O.d) l=some en->qX (ρ' l) b->∃l0 j6,aY O.d l0=some j6/\qX (ρ l0) b:=by
  intro l en b h u;rcases hl l en h with⟨rfl,rfl⟩|⟨rfl,rfl⟩|⟨A,V,h7⟩
  ·rw[rj,pN] at u;exact⟨i,_,hd,.inr (E0 b u).1⟩
  ·rw[ri,Nf] at u;exact⟨l,_,hd,u.imp id And.left⟩
  ·rw[Q l A V] at u;exact⟨l,en,h7,u⟩
 have ai:j1 (ρ i).v=some b:=by rw[h3];rfl
 have Y0:∀b,qX (ρ' j) b->qX (ρ' i) b->False:=by
  intro b' u D;rw[rj,pN] at u;rw[ri,Nf] at D;rcases D with D | D
  ·rw[ai] at D;exact(E0 b' u).2 (pT D).symm
  ·exact D.2 u
 have aa:∀l en b,l≠i->aY O.d l=some en->qX (ρ l) b->¬qX (ρ' j) b/\¬qX (ρ' i) b:=by
  intro l en b a1 U7 u;refine⟨fun h=>?_,fun h=>?_⟩
  ·rw[rj,pN] at h;exact a1 (hc.inj l i en _ b U7 hd u (.inr (E0 b h).1))
  ·rw[ri,Nf] at h;exact a1 (hc.inj l i en _ b U7 hd u (h.imp id And.left))
 obtain⟨q1,q2⟩:=hc.step fq (fun c u=>⟨i,_,hd,.inl (by rw[ai];exact u)⟩) (d':=(j,.arr T2 e r.2.2)::(i,.dp (DE.Z9 true ke T2 e) (r.1,some r.2.1) [j])::O.d) (ρ':=ρ') (fun l en b h u=> .inr (m6 l en b h u)) (by
  intro l l' en ad b h h' u D;rcases hl l en h with⟨rfl,rfl⟩|⟨rfl,rfl⟩|⟨g5,g6,g7⟩<;>rcases hl l' ad h' with⟨rfl,rfl⟩|⟨rfl,rfl⟩|⟨am,ac,an⟩
  ·rfl
  ·exact(Y0 b u D).elim
  ·rw[Q l' am ac] at D;exact((aa l' ad b ac an D).1 u).elim
  ·exact(Y0 b D u).elim
  ·rfl
  ·rw[Q l' am ac] at D;exact((aa l' ad b ac an D).2 u).elim
  ·rw[Q l g5 g6] at u;exact((aa l en b g6 g7 u).1 D).elim
  ·rw[Q l g5 g6] at u;exact((aa l en b g6 g7 u).2 D).elim
  ·rw[Q l g5 g6] at u;rw[Q l' am ac] at D;exact hc.inj l l' en ad b g7 an u D) (by
  intro L l en h;have K8:∀c,c≠b->(w.heap.setIfInBounds b (.map G ab))[c]? =w.heap[c]? :=y6.2;rcases hl l en h with⟨rfl,rfl⟩|⟨rfl,rfl⟩|⟨bb,yc,ap⟩
  ·rw[rj];show p4 T2 e r.2.2 _ _ v;rcases R2 with⟨C,H,_⟩|⟨C,_,nq⟩
   ·exact .inl ⟨H,C⟩
   ·rw[nq] at U;refine(A.rows.ok r.2.1 r.2.2 v (by simp) (by simpa using C) U).mono L (fun c u=>K8 c (E0 c u).2)
  ·rw[ri];refine⟨b,G,ab,h3,y6.1,⟨vv _ _ L,⟨by simp[a4],?_,?_,?_⟩,fun _=>ba⟩,fun q z=>?_⟩
   ·intro q xs vq ho S z;have W7:q≠r.2.1:=fun e=>ho (by rw[e]);have:(m.map (·.2))[q]? =some xs/\(B.toList.map (·.val))[q]? =some vq:=by
     rcases R2 with⟨_,_,C⟩|⟨_,C,H⟩
     ·obtain⟨H,nq⟩:=C q W7;rw[nq] at z;rw[oe,H,<-oe] at S;exact⟨S,z⟩
     ·rw[C] at S;rw[H] at z;exact⟨S,z⟩
    exact(A.rows.ok q xs vq (by simp) this.1 this.2).mono L (fun c u=>K8 c fun e=>by
     have:=(A.rows.own q vq c (by simp) this.2 u).2;exact this (by rw[e]))
   ·intro q vq c ho z u;have W7:q≠r.2.1:=fun e=>ho (by rw[e]);have I:(B.toList.map (·.val))[q]? =some vq:=by
     rcases R2 with⟨_,_,C⟩|⟨_,C,H⟩
     ·rw[<-(C q W7).2];exact z
     ·rw[<-H];exact z
    obtain⟨k1,k2⟩:=A.rows.own q vq c (by simp) I u;refine⟨⟨k1,fun aj=>?_⟩,k2⟩;rcases R2 with⟨C,_⟩|⟨_,C,H⟩
    ·rw[C] at aj;simp[j1] at aj
    ·rw[H] at U;exact W7 (A.rows.inj q r.2.1 vq v c (by simp) (by simp) I U u aj)
   ·intro q R vq a2 c ho a9 z ae u Y7;have W7:q≠r.2.1:=fun e=>ho (by rw[e]);have a8:R≠r.2.1:=fun e=>a9 (by rw[e]);rcases R2 with⟨_,_,C⟩|⟨_,C,H⟩
    ·rw[(C q W7).2] at z;rw[(C R a8).2] at ae;exact A.rows.inj q R vq a2 c (by simp) (by simp) z ae u Y7
    ·rw[H] at z ae;exact A.rows.inj q R vq a2 c (by simp) (by simp) z ae u Y7
   ·have:q=r.2.1:=(by simpa using z.symm);subst this;simp only[L4,aD2,List.head?_cons,rj];exact U
  ·rw[Q l bb yc]
   exact XB.WY (hc.own l en ap) L (fun q z=>rv q fun e'=>by subst e';exact ib.2.2 l en ap z) (fun c u=>K8 c fun e=>yc (hc.inj l i en _ c ap hd u (.inl (by rw[ai,e])))))
 refine⟨⟨ρ',q1,fun t s' T=>?_⟩,by rw[lE,B4],by cases d<;>exact j4⟩;have a0:∀t s,lk O.g t=some s->s.ok ρ' (Un F.S0 ρ' ((j,.arr T2 e r.2.2)::(i,.dp (DE.Z9 true ke T2 e) (r.1,some r.2.1) [j])::O.d)) _ (a.tmps.getD t undef):=fun t s T=>
  Slot.WY s _ (hs t s T) q2 (fun q z=>rv q fun e'=>ib.1 t s T (e' ▸ z))
 cases d with
 |none=>exact a0 t s' T
 |some q=>
  simp only[iV] at T;have YI:q<a.tmps.size:=by rw[B4];exact E7 p8
  rw[lF a q _ t YI];rw[mN] at T;split at T
  ·rename_i A;cases T;rw[YC A];simp only[Slot.ok];refine⟨[v,.int .i64 (r.2.1:Int)],rfl,v,[.int .i64 (r.2.1:Int)],rfl,?_,_,[],rfl,?_,rfl⟩
   ·simp only[Slot.ok];exact⟨by rw[rj];exact .inl ⟨_,_,_,m7⟩,by rw[rj];rfl⟩
   ·simp only[Slot.ok];exact vW.2 ⟨rfl,a7⟩
  ·rename_i A;rw[XV A];exact a0 t s' T
theorem NB[DecidableEq κ]{k:κ}{r:List (κ×List α)×Nat×List α}(h:Td m k=some r):r.2.1<r.1.length:=by
 unfold Td at h;split at h
 ·have h:=pT h;cases hk:kp (m.map (·.1)) k with
  |none=>rw[hk] at h;subst h;simp
  |some q=>rw[hk] at h;subst h;have:=(IA hk).1;simpa using this
 ·cases h
theorem Pv{M:aAb}{ys:List α}{q:Nat}{ls:List Nat}(hq:q<m.length)(hx:dH O.g x=some (.ref i))(hd:aY O.d i=some (.dp (DE.Z9 true ke T2 e) (m,some q) ls))(hy:dH O.g y=some (.v (Wr.int .i64) (q:Int)))(hz:dH O.g z=some (.ref j))(hj:aY O.d j=some (.arr T2 e ys))(j5:Nat.beq i j=false):
  JM F ⟨none,.entryStore M x y z,ty,p,af,gd⟩ O ⟨O.g,(i,.dp (DE.Z9 true ke T2 e) (wO m q ys,none) [])::wN O.d j⟩:=by
 have F7:i≠j:=fun e=>by subst e;simp at j5
 rintro a w ⟨⟨ρ,H,hs⟩,B4,j4⟩;have K:=cK H hs (Op.entryStore M x y z).operands;obtain⟨h1,⟨b,E,ck,h3,h4,L,_⟩,_⟩:=yW K (x:=x) (by simp[Op.operands]) hx hd;have h6:=(fY K (x:=y) (by simp[Op.operands]) hy).1;obtain⟨h7,kn,_⟩:=yW K (x:=z) (by simp[Op.operands]) hz hj;have kn:p4 T2 e ys (Un F.S0 ρ O.d) w (ρ j).v:=kn;obtain⟨we,ft⟩:=L.born rfl;have ai:E.toList.length=m.length:=by simpa using L.keys.len
 have T:q<E.size:=by
  have:E.toList.length=E.size:=by simp
  omega
 have hg:=MapKept.run_getObj_map (P:=F.P) h4;have pf:=fun o=>MapKept.run_setObj_map (P:=F.P) o h4;have kk:∀(j:Nat) (h:j<E.size),E[j].born=j:=fun j h=>ft j _ (by simp[h]);have aj:E.findIdx? (fun e=>(e.born:Int)==(q:Int))=some q:=by
  rw[Array.findIdx?_eq_some_iff_getElem];exact⟨T,by simp[kk q T],fun j hj=>by simp[kk j (by omega)];omega⟩
 obtain⟨N,vz⟩:∃N,N=E.modify q fun e=>{ e with val:=(ρ j).v }:=⟨_,rfl⟩;have K9:(execOp a.eval ⟨none,.entryStore M x y z,ty,p,af,gd⟩).run F.P w= .ok .skip { w with heap:=w.heap.setIfInBounds b (.map N ck) }:=by
  simp only[execOp,h1,h3,h6,h7,Instr.entryStore,Sem.run_bind,hg,Result.andThen_ok,asInt,asIntOf,Sem.run_pure,aj,pf,vz]
 have pc:N.toList.map (·.val)=(E.toList.map (·.val)).set q (ρ j).v:=by
  rw[vz,aCh];apply aCc;intro B;simp only[oe,aB6,aCq,oc];by_cases I:B<E.toList.length
  ·rw[J0 I];by_cases hi:q=B<;>simp[hi];omega
  ·rw[dc (by omega)];by_cases hi:q=B<;>simp[hi];simp at I;omega
 have vv:∀S' w',X1 ke S' w' (m.map (·.1)) E.toList->X1 ke S' w' (m.map (·.1)) N.toList:=by
  intro S' w' h;rw[vz,aCh];refine X1.modify h fun k x hk C=>?_;have:=h.get hk C;exact this
 have y6:=MapKept.heap_set (o':= .map N ck) h4;have fq:w7 (some b) w { w with heap:=w.heap.setIfInBounds b (.map N ck) }:=⟨by simp,fun k _ hk=>y6.2 k (fun e=>hk (by rw[e])),rfl,rfl,rfl⟩;have aa:j1 (ρ i).v=some b:=by rw[h3];rfl
 have ad:∀c,qX (ρ j) c->c≠b:=fun c V2 e=>F7 (H.inj i j _ _ c hd hj (.inl (by rw[aa,e])) V2);refine XC.skip K9 ?_;let ρ':Nat->LV:=fun l=>if l=i then ⟨(ρ i).v,fun b=>(ρ i).x b\/qX (ρ j) b⟩ else ρ l
 have ri:ρ' i=⟨(ρ i).v,fun b=>(ρ i).x b\/qX (ρ j) b⟩:=YC rfl;have R:∀l,l≠i->ρ' l=ρ l:=fun l h=>XV h;have rv:∀l,(ρ' l).v=(ρ l).v:=fun l=>by
  by_cases h2:l=i
  ·subst h2;rw[ri]
  ·rw[R l h2]
 have hl:∀l A,aY ((i,.dp (DE.Z9 true ke T2 e) (wO m q ys,none) [])::wN O.d j) l=some A->(l=i/\A= .dp (DE.Z9 true ke T2 e) (wO m q ys,none) [])\/(l≠i/\l≠j/\aY O.d l=some A):=by
  intro l A h;rcases Hy h with h |⟨h0,h⟩
  ·exact .inl h
  ·rw[Lv] at h;split at h
   ·cases h
   ·rename_i h6;exact .inr ⟨h0,h6,h⟩
 have m6:∀l A b,aY ((i,.dp (DE.Z9 true ke T2 e) (wO m q ys,none) [])::wN O.d j) l=some A->qX (ρ' l) b->∃l0 j6,aY O.d l0=some j6/\qX (ρ l0) b:=by
  intro l A b h u;rcases hl l A h with⟨rfl,rfl⟩|⟨h6,_,h7⟩
  ·rw[ri,Nf] at u;rcases u with u | u | u
   ·exact⟨l,_,hd,.inl u⟩
   ·exact⟨l,_,hd,.inr u⟩
   ·exact⟨j,_,hj,u⟩
  ·rw[R l h6] at u;exact⟨l,A,h7,u⟩
 have R2:∀l A b,l≠i->l≠j->aY O.d l=some A->qX (ρ l) b->¬qX (ρ' i) b:=by
  intro l A b ae am U7 u h;rw[ri,Nf] at h;rcases h with h | h | h
  ·exact ae (H.inj l i A _ b U7 hd u (.inl h))
  ·exact ae (H.inj l i A _ b U7 hd u (.inr h))
  ·exact am (H.inj l j A _ b U7 hj u h)
 obtain⟨V,X⟩:=H.step fq (fun c u=>⟨i,_,hd,.inl (by rw[aa];exact u)⟩) (d':=(i,.dp (DE.Z9 true ke T2 e) (wO m q ys,none) [])::wN O.d j) (ρ':=ρ') (fun l A b h u=> .inr (m6 l A b h u)) (by
  intro l l' A ab b g g' u ZI;rcases hl l A g with⟨rfl,rfl⟩|⟨g6,g7,g8⟩<;>rcases hl l' ab g' with⟨rfl,rfl⟩|⟨ac,an,ah⟩
  ·rfl
  ·rw[R l' ac] at ZI;exact(R2 l' ab b ac an ah ZI u).elim
  ·rw[R l g6] at u;exact(R2 l A b g6 g7 g8 u ZI).elim
  ·rw[R l g6] at u;rw[R l' ac] at ZI;exact H.inj l l' A ab b g8 ah u ZI) (by
  intro hE l A g;have K8:∀c,c≠b->(w.heap.setIfInBounds b (.map N ck))[c]? =w.heap[c]? :=y6.2;rcases hl l A g with⟨rfl,rfl⟩|⟨g6,g7,g8⟩
  ·rw[ri];refine⟨b,N,ck,h3,y6.1,⟨?_,⟨?_,fun B xs v _ C D=>?_,fun B v c _ D u=>?_,fun V X v1 v2 c _ _ XO S O4 Y7=>?_⟩,fun _=>⟨by rw[vz];simpa using we,fun B x' I=>?_⟩⟩,fun q hq=>by cases hq⟩
   ·show X1 ke _ _ ((wO m q ys).map (·.1)) _;rw[IC];exact vv _ _ (L.keys.mono hE)
   ·rw[pc];simp[wO];simpa using ai
   ·have C:((wO m q ys).map (·.2))[B]? =some xs:=C;rw[ID] at C;rw[pc] at D;by_cases Q:B=q
    ·subst Q;have U:xs=ys:=(by simpa[aCq,hq] using C.symm);have G:v=(ρ j).v:=by
      rw[aB0 (by simpa using T)] at D;exact(pT D).symm
     subst U;subst G;exact kn.mono hE (fun c u=>K8 c (ad c (.inl u)))
    ·rw[xi (kq Q)] at C D;refine(L.rows.ok B xs v (by simpa using fun e=>Q e.symm) C D).mono hE (fun c u=>K8 c fun e=>?_);exact(L.rows.own B v c (by simpa using fun e=>Q e.symm) D u).2 (by rw[e])
   ·rw[pc] at D;by_cases Q:B=q
    ·subst Q;rw[aB0 (by simpa using T)] at D;have G:=pT D;subst G;exact⟨.inr (.inl u),fun e=>ad c (.inl u) (pT e).symm⟩
    ·rw[xi (kq Q)] at D;obtain⟨k1,k2⟩:=L.rows.own B v c (by simpa using fun e=>Q e.symm) D u;exact⟨.inl k1,k2⟩
   ·rw[pc] at XO S;by_cases U:V=q
    ·subst U;rw[aB0 (by simpa using T)] at XO;have e3:=pT XO;subst e3;by_cases G:X=V
     ·exact G.symm
     ·rw[xi (kq G)] at S;obtain⟨k1,_⟩:=L.rows.own X v2 c (by simpa using fun e=>G e.symm) S Y7;exact(F7 (H.inj l j _ _ c hd hj (.inr k1) (.inl O4))).elim
    ·rw[xi (kq U)] at XO;by_cases G:X=q
     ·subst G;rw[aB0 (by simpa using T)] at S;have e3:=pT S;subst e3;obtain⟨k1,_⟩:=L.rows.own V v1 c (by simpa using fun e=>U e.symm) XO O4;exact(F7 (H.inj l j _ _ c hd hj (.inr k1) (.inl Y7))).elim
     ·rw[xi (kq G)] at S;exact L.rows.inj V X v1 v2 c (by simpa using fun e=>U e.symm) (by simpa using fun e=>G e.symm) XO S O4 Y7
   ·rw[vz,aCh,aB6] at I;cases C:E.toList[B]? with
    |none=>rw[C] at I;cases I
    |some y'=>
     rw[C] at I;have:=ft B y' C;simp only[Option.map_eq_map,tw,E4] at I;subst I;split<;>exact this
  ·rw[R l g6]
   exact XB.WY (H.own l A g8) hE (fun q _=>rv q) (fun c u=>K8 c fun e=>g6 (H.inj l i A _ c g8 hd u (.inl (by rw[aa,e])))))
 exact⟨⟨ρ',V,fun t s ht=>Slot.WY s _ (hs t s ht) X (fun q _=>rv q)⟩,B4,j4⟩
end
end Go.Sw
namespace Go.Sw
open Go Go.RowKit
section
variable {F:YP}{O O':AS}{ops:Array aAi}{OK:List (Nat×XB)->Prop}{os:List aAi}{its:List l5}{d:Option Tmp}{ty:aAb}{p:String}{af:Array Edge}{gd:Option (Nat×Bool)}{x y z:aAc}{κ α:Type}{ke:Wr κ}{e:Wr α}{T2:aAb}{m:List (κ×List α)}{i:Nat}
theorem ZA.mapEntry[DecidableEq κ]{n n' l:Nat}{M KT VT E:aAb}{k:κ}{r:List (κ×List α)×Nat×List α}(g:GK ops O.g ⟨d,.mapEntry M x y,ty,p,af,gd⟩ true)(j:Nat)(hm:Td m k=some r)(hx:dH O.g x=some (.ref i))(hd:aY O.d i=some (.dp (DE.Z9 true ke T2 e) (m,none) []))(hy:dH O.g y=some (.v ke k))
  (hM:∀w,(underlying M).run F.P w= .ok (.map KT VT) w) (hT:∀w,(underlying KT).run F.P w= .ok (.array l E) w) (he:ao n F.P KT ke) (hn:Nat.ble n 10000=true) (hk:B8 n' F.P KT ke) (M3:Nat.ble n' 10000=true) (K8:kv ke)
  (hz:∀w,(zeroValue VT).run F.P w= .ok (.slice none 0 0) w) (_:O.free [(j,.arr T2 e r.2.2)]=true) (p8:gS d F.N=true)
  (k:ZA F ops OK os ⟨iV d (.XU [.ref j,.v (Wr.int .i64) (r.2.1:Int)]) O.g,(j,.arr T2 e r.2.2)::(i,.dp (DE.Z9 true ke T2 e) (r.1,some r.2.1) [j])::O.d⟩ its O'):
  ZA F ops OK (⟨d,.mapEntry M x y,ty,p,af,gd⟩::os) O (⟨.XU [.ref j,.v (Wr.int .i64) (r.2.1:Int)],[(j,.arr T2 e r.2.2),(i,.dp (DE.Z9 true ke T2 e) (r.1,some r.2.1) [j])],[(j,.arr T2 e r.2.2)],Li O.g ⟨d,.mapEntry M x y,ty,p,af,gd⟩,[]⟩::its) O':=
 .mv (nw:=[(j,.arr T2 e r.2.2),(i,.dp (DE.Z9 true ke T2 e) (r.1,some r.2.1) [j])]) (dl:=[]) g p8 (fun σ2 h u=>Vi j hm ((h.ev (by simp[Op.operands])).trans hx) ((h.G6 (x:=x) (by simp[Op.operands]) hx (by simp[Slot.ZR])).trans hd) ((h.ev (by simp[Op.operands])).trans hy) hM hT he hn hk M3 K8 hz u p8) k
end
def kP:Wr Unit where
 n:=0
 agg:=true
 ok _ _ _ cs:=cs=[]
 len h:=by rw[h];rfl
 one h:=by cases h
 cell h c hc:=by rw[h] at hc;simp at hc
 mono h _:=h
theorem Nk{F:YP}{O:AS}{o:aAi}{new:List (Nat×XB)}(h:JO F o O (.agg []) new):JO F o O (.v kP ()) new:=by
 intro ρ S a w K;refine(h ρ S a w K).mono ?_;rintro v G ⟨ρ',C,D,z,E⟩;refine⟨ρ',C,D,?_,E⟩;simp only[Slot.ok] at z ⊢;obtain⟨A,B,u⟩:=z;have u:A=[]:=u;subst u;exact⟨[],rfl,B⟩
def NC:Wr Unit where
 n:=1
 agg:=false
 ok _ _ _ cs:=cs=[.nilIface]
 len h:=by rw[h];rfl
 one _:=rfl
 cell h c hc:=by rw[h] at hc;simp at hc;subst hc;rfl
 mono h _:=h
def vY{α β:Type}(T:aAb)(e:Wr α)(r:Wr β)(hn:r.n=1)(_ha:r.agg=false):Wr (α ⊕ β) where
 n:=1
 agg:=false
 ok q S w cs:=match q with | .inl x=>∃u,cs=[.iface T (e.pk u)]/\e.ok x S w u | .inr y=>r.ok y S w cs
 len {q S w cs} h:=by
  cases q with
  |inl x=>obtain⟨u,h,_⟩:=h;rw[h];rfl
  |inr y=>rw[r.len h,hn]
 one _:=rfl
 cell {q S w cs} h:=by
  cases q with
  |inl x=>obtain⟨u,h,_⟩:=h;intro c z;rw[h] at z;simp at z;subst z;rfl
  |inr y=>exact r.cell h
 mono {q S S' w w' cs} h k:=by
  cases q with
  |inl x=>obtain⟨u,h,A⟩:=h;exact⟨u,h,e.mono A k⟩
  |inr y=>exact r.mono h k
def fz{α β:Type}(T:aAb)(e:Wr α)(z:α)(f:Wr β)(q:β):Prop:=∀S w v,e.val z S w v->f.val q S w (.iface T v)
theorem fz.here{α β:Type}{T:aAb}{e:Wr α}{z:α}{r:Wr β}{hn:r.n=1}{ha:r.agg=false}:fz T e z (vY T e r hn ha) (.inl z):=by
 rintro S w v ⟨u,h,rfl⟩;exact⟨_,⟨u,rfl,h⟩,rfl⟩
theorem fz.there{α β γ:Type}{T T':aAb}{e:Wr α}{e':Wr γ}{z:α}{r:Wr β}{hn:r.n=1}{ha:r.agg=false}{q:β}(h:fz T e z r q):fz T e z (vY T' e' r hn ha) (.inr q):=by
 intro S w v u;obtain⟨A,B,C⟩:=h S w v u;exact⟨A,B,by rw[C];simp[Wr.pk,vY,ha]⟩
section
variable {F:YP}{O:AS}{d:Option Tmp}{ty:aAb}{p:String}{af:Array Edge}{gd:Option (Nat×Bool)}{x:aAc}
theorem Ic{α β:Type}{T:aAb}{fs:Array aAh}{e:Wr α}{z:α}{f:Wr β}{q:β}(hx:dH O.g x=some (.v e z))(hT:∀w,(underlying T).run F.P w= .ok (.struct fs) w)(hI:fz T e z f q):JO F ⟨d,.makeInterface T x,ty,p,af,gd⟩ O (.v f q) []:=by
 intro ρ S a w K;have h:=K.slot x (by simp[Op.operands]) _ hx;simp only[Slot.ok] at h;refine XC.value (w':=w) (v:= .iface T (a.eval x)) ?_ (ZC.same (by simp only[Slot.ok];exact hI _ _ _ h));simp[execOp,Instr.makeInterface,hT]
end
def D1{β:Type}(P:aAe)(name:String)(f:Wr β)(q:β)(ss:List Slot)(res:Slot)(new:List (Nat×XB)):Prop:=
 ∀S w v,f.val q S w v->∃T u g s0,v= .iface T u/\(∀w,(method (P.types.size+Made.depth) T u name).run P w= .ok (g,u) w)/\(∀args w,(callFunc g args).run P w= .ok (.enter g args) w)/\(∀ρ,Slot.ok ρ S w s0 u)/\XL P g (s0::ss) res new
section
variable {P:aAe}{name:String}{ss:List Slot}{res:Slot}{new:List (Nat×XB)}
theorem D1.here{α β:Type}{T:aAb}{g:aAf}{e:Wr α}{z:α}{r:Wr β}{hn:r.n=1}{ha:r.agg=false}(hm:∀u w,(method (P.types.size+Made.depth) T u name).run P w= .ok (g,u) w)(hc:∀args w,(callFunc g args).run P w= .ok (.enter g args) w)
  (h:XL P g (.v e z::ss) res new):D1 P name (vY T e r hn ha) (.inl z) ss res new:=by
 rintro S w v ⟨C,⟨A,rfl,B⟩,rfl⟩;exact⟨T,e.pk A,g,.v e z,rfl,hm _,hc,fun ρ=>by simp only[Slot.ok];exact⟨A,B,rfl⟩,h⟩
theorem D1.there{β γ:Type}{T':aAb}{e':Wr γ}{r:Wr β}{hn:r.n=1}{ha:r.agg=false}{q:β}(h:D1 P name r q ss res new):D1 P name (vY T' e' r hn ha) (.inr q) ss res new:=by
 rintro S w v ⟨u,z,rfl⟩;exact h S w _ ⟨u,z,by simp[Wr.pk,vY,ha]⟩
end
section
variable {F:YP}{O:AS}{d:Option Tmp}{ty:aAb}{p:String}{af:Array Edge}{gd:Option (Nat×Bool)}{x:aAc}
theorem DZ{β:Type}{name:String}{f:Wr β}{q:β}{xs:List aAc}{ts:Array aAb}{ss:List Slot}{res:Slot}(hx:dH O.g x=some (.v f q))(hc:D1 F.P name f q ss res [])(ha:W5 O false xs ss):
  JO F ⟨d,.call ⟨.invoke x name,xs.toArray,ts⟩,ty,p,af,gd⟩ O res []:=by
 intro ρ S a w K;have z:=K.slot x (by simp[Op.operands,Call.operands]) _ hx;simp only[Slot.ok] at z;obtain⟨T,u,g,I,C,D,E,G,H⟩:=hc _ _ _ z;have A:=ha.spec (ys:=(Op.call ⟨.invoke x name,xs.toArray,ts⟩).operands) (by intro x hx;simp[Op.operands,Call.operands,hx]) K;have B:(execOp a.eval ⟨d,.call ⟨.invoke x name,xs.toArray,ts⟩,ty,p,af,gd⟩).run F.P w= .ok (.enter g (u::xs.map a.eval).toArray) w:=by
  simp[execOp,resolve,C,invoke,callMethod,D,E];exact aCa (by simp)
 refine XC.enter B ?_;refine(H S w _ ρ K.low (by simp only[aX];exact⟨u,_,rfl,G ρ,A⟩)).mono ?_;rintro e L ⟨v,rfl,h⟩;exact⟨v,rfl,h⟩
end
end Go.Sw
namespace Go.Sw
open Go Go.RowKit
def vF{α β:Type}(o:Option α)(n:Option β)(s:α->Option β):Option β:=match o with | none=>n | some z=>s z
theorem vZ{α β:Type}{o:Option α}{n:Option β}{s:α->Option β}{r:β}(h:o=none)(k:vF o n s=some r):n=some r:=by subst h;exact k
theorem wA{α β:Type}{o:Option α}{n:Option β}{s:α->Option β}{r:β}{z:α}(h:o=some z)(k:vF o n s=some r):s z=some r:=by subst h;exact k
section
variable {F:YP}{O:AS}{d:Option Tmp}{ty:aAb}{p:String}{af:Array Edge}{gd:Option (Nat×Bool)}{x:aAc}
end
section
variable {F:YP}{ops:Array aAi}{OK:List (Nat×XB)->Prop}{os:List aAi}{O σ2 O':AS}{its:List l5}{d:Option Tmp}{ty:aAb}{p:String}{af:Array Edge}{gd:Option (Nat×Bool)}{o:aAi}
theorem Arg.loc{x:aAc}{s:Slot}{l:Bool}(h:Arg O l x s)(hL:Loc ops o O σ2)(hm:x∈o.op.operands):Arg σ2 l x s:=fun ρ S a w K=>
 h ρ S a w ⟨K.low,fun y u s z=>K.slot y u s (by
  have:y=x:=by simpa using u
  subst this;rw[hL.ev hm];exact z),fun y u s z i A B C=>K.G6 y u s (by
   have:y=x:=by simpa using u
   subst this;rw[hL.ev hm];exact z) i A B (by
    have:y=x:=by simpa using u
    subst this;rw[hL.G6 hm z A];exact C)⟩
theorem E9.loc{r:Nat->Nat}{xs:List aAc}{l:List Slot}(h:E9 O r xs l)(hL:Loc ops o O σ2)(hm:∀x∈xs,x∈o.op.operands):E9 σ2 r xs l:=by
 induction h with
 |nil=>exact .nil
 |cons z _ A=>exact .cons (z.loc hL (hm _ dg)) (A fun x u=>hm x (cz _ u))
theorem E5.loc{r A:Nat->Nat}{ds:List (Nat×XB)}(h:E5 O r A ds)(hd:∀l∈ds.map (fun x=>r x.1),aY σ2.d l=aY O.d l):E5 σ2 r A ds:=by
 induction h with
 |nil=>exact .nil
 |box z _ B=>exact .box (by rw[hd _ (by simp)];exact z) (B fun l u=>hd l (by simp at u ⊢;exact .inr u))
 |arr z _ B=>exact .arr (by rw[hd _ (by simp)];exact z) (B fun l u=>hd l (by simp at u ⊢;exact .inr u))
 |mp z _ B=>exact .mp (by rw[hd _ (by simp)];exact z) (B fun l u=>hd l (by simp at u ⊢;exact .inr u))
 |dp z _ B=>exact .dp (by rw[hd _ (by simp)];exact z) (B fun l u=>hd l (by simp at u ⊢;exact .inr u))
theorem l3.loc{r A:Nat->Nat}{ds D:List (Nat×XB)}{K:List Nat}(h:l3 O r A ds D K)(hd:∀l∈K,aY σ2.d l=aY O.d l):l3 σ2 r A ds D K:=by
 induction h with
 |nil=>exact .nil
 |box C _ u z=>exact .box (by rw[hd _ dg];exact C) (z fun l B=>hd l (cz _ B)) u
 | Y9 _ u z=>exact .Y9 (z hd) u
 |arr _ u z=>exact .arr (z hd) u
 |mp _ u z=>exact .mp (z hd) u
 |dp _ u z=>exact .dp (z hd) u
theorem ZA.N2{f:aAf}{xs:List aAc}{ts:Array aAb}{ss:List Slot}{res:Slot}{ZL XJ:(Nat->Nat)->List (Nat×XB)}{D:List (Nat×XB)}{K H:List Nat}(g:GK ops O.g ⟨d,.call ⟨.value (.func f),xs.toArray,ts⟩,ty,p,af,gd⟩ true)(r:Nat->Nat)(hr:∀i j,r i=r j->i=j)
  (hc:∀A,XA F.P f ss (ZL A) res (XJ A)) (ZE:∀args w,(callFunc f args).run F.P w= .ok (.enter f args) w) (ha:E9 O r xs ss) (F6:∀A,E5 O r A (ZL A)) (I4:∀A,l3 O r A (XJ A) D K)
  (hH:∀A,(ZL A).map (fun x=>r x.1)=H) (hDK:D.all (fun x=> !iL x.1 H || iL x.1 K)=true) (_:Ps O H D=true) (ZW:∀A,lG res (XJ A)=true) (lq:K.all (fun k=>iL k H)=true) (p8:gS d F.N=true)
  (k:ZA F ops OK os ⟨iV d (res.map r) O.g,D++jC O.d H⟩ its O'):
  ZA F ops OK (⟨d,.call ⟨.value (.func f),xs.toArray,ts⟩,ty,p,af,gd⟩::os) O (⟨res.map r,D,D.filter (fun x=> !iL x.1 H),Li O.g ⟨d,.call ⟨.value (.func f),xs.toArray,ts⟩,ty,p,af,gd⟩++H,H⟩::its) O':=by
 refine .mvx (nw:=D) (fr:=D.filter (fun x=> !iL x.1 H)) (dl:=H) (ex:=H) g p8 (fun σ2 M I Q=>?_) k;have L:∀x∈D,iL x.1 H=true->iL x.1 K=true:=fun x h C=>by
  have:=y8.1 hDK x h;simpa[C] using this
 refine tA r hr hc ZE (ha.loc M fun x h=>by simp[Op.operands,Call.operands,h]) (fun A=>(F6 A).loc fun l z=>I l (by rw[<-hH A];exact z)) (fun A=>(I4 A).loc fun l z=>I l (jF.1 (y8.1 lq l z))) hH ?_ ?_ ZW lq p8
 ·have E:∀l,(!iL l H || iL l K || !iL l (D.map (·.1)))=true:=by
   intro l;cases u:iL l H with
   |false=>simp
   |true=>
    cases h2:iL l (D.map (·.1)) with
    |false=>simp
    |true=>
     obtain⟨x,h,rfl⟩:=fx.1 (jF.1 h2);simp[L x h u]
  unfold Bk;simp only[K0,y8];exact⟨fun y _ l _=>E l,fun y _ l _=>E l⟩
 ·unfold Ps;rw[y8];intro x h;cases C:iL x.1 H with
  |true=>simp
  |false=>
   have u:=y8.1 Q x (aCj.2 ⟨h,by simp[C]⟩);simp only[K0,y8] at u;have G:∀l:List Nat,(!l.contains x.1)=true->(!iL x.1 l)=true:=by
    intro l z;cases h2:iL x.1 l with
    |false=>rfl
    |true=>have:=jF.1 h2;simp at z;exact absurd this z
   simp only[aCi,K0,y8];exact .inr ⟨fun y B=>⟨(u.2 y B).1,G _ (u.2 y B).2⟩,fun y B=>G _ (u.1 y B)⟩
end
end Go.Sw
namespace Go.Sw
open Go Go.RowKit
def Gt{κ β:Type}[DecidableEq κ](m:List (κ×β))(k:κ):List (κ×β):=match kp (m.map (·.1)) k with | some q=>m.eraseIdx q | none=>m
section
variable {F:YP}{O:AS}{d:Option Tmp}{ty:aAb}{p:String}{af:Array Edge}{gd:Option (Nat×Bool)}{x y z:aAc}{κ α:Type}{ke:Wr κ}{e:Wr α}{T2:aAb}{m:List (κ×List α)}{i j:Nat}{fr:Bool}
end
section
variable {F:YP}{O O':AS}{ops:Array aAi}{OK:List (Nat×XB)->Prop}{os:List aAi}{its:List l5}{d:Option Tmp}{ty:aAb}{p:String}{af:Array Edge}{gd:Option (Nat×Bool)}{x y:aAc}{κ α:Type}{ke:Wr κ}{e:Wr α}{T2:aAb}{m:List (κ×List α)}{i:Nat}{fr:Bool}
end
end Go.Sw
namespace Go.Sw
open Go Go.RowKit
def Wr.B0(a:Nat):Wr Unit where
 n:=1
 agg:=false
 ok _ _ _ cs:=cs=[.pointer (some ⟨a,0,none⟩)]
 len h:=by rw[h];rfl
 one _:=rfl
 cell h c hc:=by rw[h] at hc;simp at hc;subst hc;rfl
 mono h _:=h
def Wr.pt{α:Type}(e:Wr α):Wr α where
 n:=1
 agg:=false
 ok x S w cs:=∃b u z,cs=[.pointer (some ⟨b,u,none⟩)]/\b<w.heap.size/\¬S b/\XK w b u z/\e.ok x S w z
 len h:=by obtain⟨b,u,z,h,_⟩:=h;rw[h];rfl
 one _:=rfl
 cell h c hc:=by obtain⟨b,u,z,h,_⟩:=h;rw[h] at hc;simp at hc;subst hc;rfl
 mono h k:=by
  obtain⟨b,u,z,C,A,B,D,E⟩:=h;exact⟨b,u,z,C,X0 A k.size,(k.M1 b A B).2,D.mono A B k,e.mono E k⟩
def Wr.R4{α β:Type}(g:Nat)(ef:Wr α)(ec:Wr β):Wr (α×β) where
 n:=1
 agg:=false
 ok q S w cs:=∃u z,cs=[.func (.func g) u.toArray z.toArray]/\ef.ok q.1 S w u/\ec.ok q.2 S w z
 len h:=by obtain⟨u,z,h,_⟩:=h;rw[h];rfl
 one _:=rfl
 cell h c hc:=by obtain⟨u,z,h,_⟩:=h;rw[h] at hc;simp at hc;subst hc;rfl
 mono h k:=by obtain⟨u,z,h,A,B⟩:=h;exact⟨u,z,h,ef.mono A k,ec.mono B k⟩
def qO{α β:Type}(f:Wr α)(r:Wr β)(h1:f.n=1)(_h2:f.agg=false)(h3:r.n=1)(_h4:r.agg=false):Wr (α ⊕ β) where
 n:=1
 agg:=false
 ok q S w cs:=match q with | .inl x=>f.ok x S w cs | .inr y=>r.ok y S w cs
 len {q S w cs} h:=by
  cases q with
  |inl x=>rw[f.len h,h1]
  |inr y=>rw[r.len h,h3]
 one _:=rfl
 cell {q S w cs} h:=by
  cases q with
  |inl x=>exact f.cell h
  |inr y=>exact r.cell h
 mono {q S S' w w' cs} h k:=by
  cases q with
  |inl x=>exact f.mono h k
  |inr y=>exact r.mono h k
def iu{α β:Type}(e:Wr α)(z:α)(f:Wr β)(q:β):Prop:=∀S w v,e.val z S w v->f.val q S w v
theorem iu.self{α:Type}{e:Wr α}{z:α}:iu e z e z:=fun _ _ _ h=>h
theorem iu.l{α β γ:Type}{e:Wr γ}{z:γ}{f:Wr α}{r:Wr β}{h1:f.n=1}{h2:f.agg=false}{h3:r.n=1}{h4:r.agg=false}{q:α}(h:iu e z f q):iu e z (qO f r h1 h2 h3 h4) (.inl q):=by
 intro S w v u;obtain⟨A,B,C⟩:=h S w v u;exact⟨A,B,by rw[C];simp[Wr.pk,qO,h2]⟩
theorem iu.r{α β γ:Type}{e:Wr γ}{z:γ}{f:Wr α}{r:Wr β}{h1:f.n=1}{h2:f.agg=false}{h3:r.n=1}{h4:r.agg=false}{q:β}(h:iu e z r q):iu e z (qO f r h1 h2 h3 h4) (.inr q):=by
 intro S w v u;obtain⟨A,B,C⟩:=h S w v u;exact⟨A,B,by rw[C];simp[Wr.pk,qO,h4]⟩
section
variable {F:YP}{O:AS}{pb:Option Nat}{s:Slot}{d:Option Tmp}{ty:aAb}{p:String}{af:Array Edge}{gd:Option (Nat×Bool)}{x y z:aAc}
def Z4{α:Type}(O:AS)(xs:List aAc)(e:Wr α)(v:α):Prop:=∀ρ S a w,B3 O xs.toArray ρ S a w->e.ok v S w (xs.map a.eval)
theorem Z4.nil:Z4 O [] kP ():=fun _ _ _ _ _=>rfl
theorem Z4.B0{i c:Nat}{T:aAb}{l:List Slot}(hx:dH O.g x=some (.ptr i 0))(he:aY O.d i=some (.box T l (some c))):Z4 O [x] (Wr.B0 c) ():=by
 intro ρ S a w K;have h:=K.slot x (by simp) _ hx;simp only[Slot.ok] at h;obtain⟨⟨b,B⟩,A⟩:=h;have u:=(K.G6 x (by simp) _ hx i (by simp[Slot.ZR]) _ he).1;have z:=u.2 c rfl;show [a.eval x]=_;rw[A,z];rfl
theorem Z4.ZH{α:Type}{e:Wr α}{v:α}(hx:dH O.g x=some (.ZH e v)):Z4 O [x] (Wr.pt e) v:=by
 intro ρ S a w K;have h:=K.slot x (by simp) _ hx;simp only[Slot.ok] at h;obtain⟨b,u,z,A,B⟩:=h;exact⟨b,u,z,by simp[A],B⟩
theorem Z4.cons{α β:Type}{e:Wr α}{e':Wr β}{v:α}{v':β}{xs:List aAc}(h:Z4 O [x] e v)(k:Z4 O xs e' v'):Z4 O (x::xs) (Wr.pr e e') (v,v'):=by
 intro ρ S a w K
 exact⟨[a.eval x],xs.map a.eval,rfl,h ρ S a w ⟨K.low,fun q u=>K.slot q (by simp at u ⊢;exact .inl u),fun q u=>K.G6 q (by simp at u ⊢;exact .inl u)⟩,
  k ρ S a w ⟨K.low,fun q u=>K.slot q (by simp at u ⊢;exact .inr u),fun q u=>K.G6 q (by simp at u ⊢;exact .inr u)⟩⟩
theorem oD{α β γ:Type}{g:Nat}{ef:Wr α}{ec:Wr β}{u:α}{v:β}{f:Wr γ}{q:γ}{xs ys:List aAc}(hf:Z4 O xs ef u)(hc:Z4 O ys ec v)(hI:iu (Wr.R4 g ef ec) (u,v) f q):
  JO F ⟨d,.makeFunc (.func g) xs.toArray ys.toArray,ty,p,af,gd⟩ O (.v f q) []:=by
 intro ρ S a w K;have z:=hf ρ S a w ⟨K.low,fun r h=>K.slot r (by simp[Op.operands] at h ⊢;exact .inl h),fun r h=>K.G6 r (by simp[Op.operands] at h ⊢;exact .inl h)⟩;have A:=hc ρ S a w ⟨K.low,fun r h=>K.slot r (by simp[Op.operands] at h ⊢;exact .inr h),fun r h=>K.G6 r (by simp[Op.operands] at h ⊢;exact .inr h)⟩;refine XC.value (w':=w) (v:= .func (.func g) (xs.map a.eval).toArray (ys.map a.eval).toArray) (by simp[execOp,Instr.makeFunc]) (ZC.same ?_);simp only[Slot.ok];exact hI _ _ _ ⟨_,⟨_,_,rfl,z,A⟩,rfl⟩
theorem Jq{T:aAb}{i:Nat}(l:Nat)(hx:dH O.g x=some (.ptr i 0))(hil:Nat.beq i l=false):JO F ⟨d,.box T x,ty,p,af,gd⟩ O (.ptr l 0) [(l,.box T [.ptr i 0])]:=by
 intro ρ S a w K;have h:=K.slot x (by simp[Op.operands]) _ hx;have B:=h;simp only[Slot.ok] at h;obtain⟨⟨b,u⟩,A⟩:=h;rw[u] at A;have z:a.eval x= .pointer (some ⟨b,0,none⟩):=A;refine XC.value (w':=w.alloc (.cells [a.eval x].toArray T)) (v:= .pointer (some ⟨w.heap.size,0,none⟩)) (by simp[execOp,Instr.box,xU,z,Value.cells]) ?_;refine ZC.box l ?_ (by simp[eC,Slot.ZR,hil]);exact⟨[a.eval x],[],rfl,by simp only[Slot.j9];exact⟨⟨b,u⟩,by rw[z,u];rfl⟩,rfl⟩
theorem BT{i:Nat}{T:aAb}{l:List Slot}{cs:List aAj}{Q:aAl->aAm->aAa->Prop}(he:aY O.d i=some (.box T l none))(h:∀c,W F cs ⟨O.g,(i,.box T l (some c))::O.d⟩ Q):W F cs O Q:=by
 intro a w U;obtain⟨⟨ρ,A,m7⟩,hz,j4⟩:=U;have S:=A.own i _ he;obtain⟨⟨b,aa,L,h2,h3⟩,h4⟩:=S;refine h b a w ⟨⟨ρ,?_,?_⟩,hz,j4⟩
 ·have E:∀G z,aY ((i,XB.box T l (some b))::O.d) G=some z->(G=i/\z= .box T l (some b))\/(G≠i/\aY O.d G=some z):=fun G z h=>Hy h;have H:Un F.S0 ρ ((i,XB.box T l (some b))::O.d)=Un F.S0 ρ O.d:=by
   funext k;refine propext ⟨?_,?_⟩
   ·rintro (h |⟨j,z,u,D⟩)
    ·exact .inl h
    ·rcases E j z u with⟨rfl,_⟩|⟨_,u⟩
     ·exact .inr ⟨j,_,he,D⟩
     ·exact .inr ⟨j,_,u,D⟩
   ·rintro (h |⟨j,z,u,D⟩)
    ·exact .inl h
    ·by_cases K:j=i
     ·subst K;exact .inr ⟨j,.box T l (some b),by rw[cN,YC rfl],D⟩
     ·exact .inr ⟨j,z,by rw[cN,XV (kq K)];exact u,D⟩
  refine⟨A.low,A.size,A.frame,A.os,A.tape,A.output,?_,?_,?_,?_⟩
  ·intro j z u;show z.ok ρ (Un F.S0 ρ ((i,XB.box T l (some b))::O.d)) w (ρ j);rw[H];rcases E j z u with⟨rfl,rfl⟩|⟨_,u⟩
   ·exact⟨⟨b,aa,L,h2,h3⟩,fun c V2=>by cases V2;exact L⟩
   ·exact A.own j z u
  ·intro j z B u C;rcases E j z u with⟨rfl,rfl⟩|⟨_,u⟩
   ·exact A.fresh j _ B he C
   ·exact A.fresh j z B u C
  ·intro j V z X B u mr I C;rcases E j z u with⟨M,_⟩|⟨_,N⟩<;>rcases E V X mr with⟨P,_⟩|⟨_,R⟩
   ·rw[M,P]
   ·subst M;exact A.inj _ _ _ _ B he R I C
   ·subst P;exact A.inj _ _ _ _ B N he I C
   ·exact A.inj _ _ _ _ B N R I C
  ·intro j z B u C;rcases E j z u with⟨rfl,rfl⟩|⟨_,u⟩
   ·exact A.apart j _ B he C
   ·exact A.apart j z B u C
 ·intro t s ht
  have H:Ext (Un F.S0 ρ O.d) (Un F.S0 ρ ((i,XB.box T l (some b))::O.d)) w w:=⟨ZY _,fun k _ hk=>⟨rfl,fun h=>hk (by
   rcases h with h |⟨j,z,u,D⟩
   ·exact .inl h
   ·rcases Hy u with⟨rfl,_⟩|⟨_,u⟩
    ·exact .inr ⟨j,_,he,D⟩
    ·exact .inr ⟨j,_,u,D⟩)⟩⟩
  exact Slot.WY s _ (m7 t s ht) H (fun _ _=>rfl)
end
def Z6{α:Type}(pins:List (Nat×Nat))(e:Wr α)(v:α)(ss:List Slot):Prop:=∀ρ S w cs,(∀p∈pins,(ρ p.1).v= .pointer (some ⟨p.2,0,none⟩))->e.ok v S w cs->aX ρ S w ss cs
theorem Z6.nil{pins:List (Nat×Nat)}:Z6 pins kP () []:=fun _ _ _ _ _ h=>h
theorem Z6.B0{pins:List (Nat×Nat)}{i c:Nat}(h:(i,c)∈pins):Z6 pins (Wr.B0 c) () [.ptr i 0]:=by
 intro ρ S w cs hp u;have u:cs=[.pointer (some ⟨c,0,none⟩)]:=u;subst u;have:=hp _ h;exact⟨_,[],rfl,by simp only[Slot.ok];exact⟨⟨c,this⟩,by rw[this];rfl⟩,rfl⟩
theorem Z6.pt{pins:List (Nat×Nat)}{α:Type}{e:Wr α}{v:α}:Z6 pins (Wr.pt e) v [.ZH e v]:=by
 rintro ρ S w A B ⟨b,u,z,rfl,h⟩;exact⟨_,[],rfl,by simp only[Slot.ok];exact⟨b,u,z,rfl,h⟩,rfl⟩
theorem Z6.pr{pins:List (Nat×Nat)}{α β:Type}{e:Wr α}{e':Wr β}{v:α}{v':β}{s s':List Slot}(h:Z6 pins e v s)(k:Z6 pins e' v' s'):Z6 pins (Wr.pr e e') (v,v') (s++s'):=by
 rintro ρ S w C u ⟨c,z,rfl,A,B⟩;exact Bj (h ρ S w c u A) (k ρ S w z u B)
def XD{β:Type}(P:aAe)(pins:List (Nat×Nat))(f:Wr β)(q:β)(ZL:List (Nat×XB))(res:Slot)(XJ:List (Nat×XB)):Prop:=
 ∀S w v,f.val q S w v->∃g fs gs ss,v= .func (.func g) fs.toArray gs.toArray/\(∀args w,(callFunc g args).run P w= .ok (.enter g args) w)/\(∀ρ,(∀p∈pins,(ρ p.1).v= .pointer (some ⟨p.2,0,none⟩))->aX ρ S w ss (fs++gs))/\XA P g ss ZL res XJ
section
variable {P:aAe}{pins:List (Nat×Nat)}{ZL XJ:List (Nat×XB)}{res:Slot}
theorem XD.R4{α β:Type}{g:Nat}{ef:Wr α}{ec:Wr β}{q:α×β}{s s':List Slot}(h:Z6 pins ef q.1 s)(k:Z6 pins ec q.2 s')(hc:∀args w,(callFunc g args).run P w= .ok (.enter g args) w)(hm:XA P g (s++s') ZL res XJ):XD P pins (Wr.R4 g ef ec) q ZL res XJ:=by
 rintro S w v ⟨D,⟨z,A,rfl,B,C⟩,rfl⟩;exact⟨g,z,A,_,rfl,hc,fun ρ u=>Bj (h ρ S w z u B) (k ρ S w A u C),hm⟩
theorem XD.l{α β:Type}{f:Wr α}{r:Wr β}{h1:f.n=1}{h2:f.agg=false}{h3:r.n=1}{h4:r.agg=false}{q:α}(h:XD P pins f q ZL res XJ):XD P pins (qO f r h1 h2 h3 h4) (.inl q) ZL res XJ:=by
 rintro S w v ⟨u,z,A⟩;exact h S w v ⟨u,z,by rw[A];simp[Wr.pk,qO,h2]⟩
theorem XD.r{α β:Type}{f:Wr α}{r:Wr β}{h1:f.n=1}{h2:f.agg=false}{h3:r.n=1}{h4:r.agg=false}{q:β}(h:XD P pins r q ZL res XJ):XD P pins (qO f r h1 h2 h3 h4) (.inr q) ZL res XJ:=by
 rintro S w v ⟨u,z,A⟩;exact h S w v ⟨u,z,by rw[A];simp[Wr.pk,qO,h4]⟩
end
section
variable {F:YP}{O:AS}{d:Option Tmp}{ty:aAb}{p:String}{af:Array Edge}{gd:Option (Nat×Bool)}{x:aAc}
theorem EA{P:aAe}{g:aAf}{ts:Array aAb}{a:aAm}{w:aAa}{fs gs:List aAd}(hx:a.eval x= .func (.func g) fs.toArray gs.toArray)(ZE:∀args w,(callFunc g args).run P w= .ok (.enter g args) w):
  (execOp a.eval ⟨d,.call ⟨.value x,#[],ts⟩,ty,p,af,gd⟩).run P w= .ok (.enter g (fs++gs).toArray) w:=by
 simp[execOp,resolve,hx,Deferred.ofValue,invoke,ZE]
def W4(O:AS)(r:Nat->Nat):List (Nat×Nat)->Prop
 | []=>True
 |q::l=>(∃T s,aY O.d (r q.1)=some (.box T s (some q.2)))/\W4 O r l
theorem W4.at{O:AS}{r:Nat->Nat}:∀{pins:List (Nat×Nat)},W4 O r pins->∀q∈pins,∃T s,aY O.d (r q.1)=some (.box T s (some q.2))
 |_::_,h,q,u=>by
  rcases B1.1 u with rfl | u
  ·exact h.1
  ·exact W4.at h.2 q u
theorem Nl{β:Type}{f:Wr β}{q:β}{ts:Array aAb}{res:Slot}{ZL XJ:(Nat->Nat)->List (Nat×XB)}{D:List (Nat×XB)}{K H:List Nat}(pins:List (Nat×Nat))(r:Nat->Nat)(hr:∀i j,r i=r j->i=j)(hx:dH O.g x=some (.v f q))(hp:W4 O r pins)
  (hc:∀A,(∀p∈pins,A p.1=p.2)->XD F.P pins f q (ZL A) res (XJ A)) (F6:∀A,E5 O r A (ZL A)) (I4:∀A,l3 O r A (XJ A) D K)
  (hH:∀A,(ZL A).map (fun x=>r x.1)=H) (ZM:Bk O.g (jC O.d H) H K D=true) (U6:Ps O H D=true) (ZW:∀A,lG res (XJ A)=true) (lq:K.all (fun k=>iL k H)=true) (p8:gS d F.N=true):
  JM F ⟨d,.call ⟨.value x,#[],ts⟩,ty,p,af,gd⟩ O ⟨iV d (res.map r) O.g,D++jC O.d H⟩:=by
 rintro a w ⟨⟨ρ,z,X⟩,hz,j4⟩;let A:Nat->Nat:=fun i=>B0 (ρ (r i)).v
 have L:∀i b,(ρ (r i)).v= .pointer (some ⟨b,0,none⟩)->A i=b:=fun i b h=>by show B0 (ρ (r i)).v=b;rw[h];rfl
 have S:∀q∈pins,(ρ (r q.1)).v= .pointer (some ⟨q.2,0,none⟩):=fun q hq=>by
  obtain⟨T,s,h⟩:=hp.at q hq;exact(z.own _ _ h).2 _ rfl
 have C:=(F6 A).spec z.own L;have r8:∀k,(Un F.S0 ρ O.d k/\¬mV (fun i=>ρ (r i)) (ZL A) k)->k<w.heap.size:=by
  rintro k ⟨h |⟨i,u,E,G⟩,_⟩
  ·exact X0 (z.low k h) z.size
  ·exact(z.fresh i u k E G).2
 have U:Un (fun k=>Un F.S0 ρ O.d k/\¬mV (fun i=>ρ (r i)) (ZL A) k) (fun i=>ρ (r i)) (ZL A)=Un F.S0 ρ O.d:=by
  funext k;refine propext ⟨fun h=>?_,fun h=>?_⟩
  ·rcases h with h |⟨i,u,E,G⟩
   ·exact h.1
   ·obtain⟨⟨Q,B⟩,_⟩:=C i u E;exact .inr ⟨r i,Q,B,G⟩
  ·by_cases I:mV (fun i=>ρ (r i)) (ZL A) k
   ·exact .inr I
   ·exact .inl ⟨h,I⟩
 have mu:Ins (fun k=>Un F.S0 ρ O.d k/\¬mV (fun i=>ρ (r i)) (ZL A) k) (fun i=>ρ (r i)) w (ZL A):=by
  refine⟨fun i u h=>?_,fun i u b h M=>?_,fun i u b h M h'=>h'.2 ⟨i,u,h,M⟩,fun i j u aa b hi hj bi bj=>?_⟩
  ·rw[U];exact(C i u h).2
  ·obtain⟨⟨Q,B⟩,_⟩:=C i u h;exact(z.fresh _ _ b B M).2
  ·obtain⟨⟨Q,B⟩,_⟩:=C i u hi;obtain⟨⟨fu,R⟩,_⟩:=C j aa hj;exact hr _ _ (z.inj _ _ _ _ b B R bi bj)
 have K:=cK z X (Op.call ⟨.value x,#[],ts⟩).operands;have V:=K.slot x (by simp[Op.operands,Call.operands]) _ hx;simp only[Slot.ok] at V;obtain⟨g,fs,gs,ss,E,G,B,R⟩:=hc A (fun p jh=>L _ _ (S p jh)) _ _ _ V;refine XC.enter (EA E G) ((R _ w _ _ r8 mu (by rw[U];exact B _ S)).mono ?_);rintro e w' ⟨v,ρ',rfl,I⟩;exact⟨v,rfl,St.N2 hr z X hz j4 L (F6 A) (I4 A) (hH A) ZM U6 (ZW A) lq p8 I⟩
theorem Jr{f:aAf}{xs:List aAc}{ts:Array aAb}{ss:List Slot}{res:Slot}{ZL XJ:(Nat->Nat)->List (Nat×XB)}{D:List (Nat×XB)}{K H:List Nat}(pins:List (Nat×Nat))(r:Nat->Nat)(hr:∀i j,r i=r j->i=j)(hp:W4 O r pins)
  (hc:∀A,(∀p∈pins,A p.1=p.2)->XA F.P f ss (ZL A) res (XJ A)) (ZE:∀args w,(callFunc f args).run F.P w= .ok (.enter f args) w) (ha:E9 O r xs ss) (F6:∀A,E5 O r A (ZL A)) (I4:∀A,l3 O r A (XJ A) D K)
  (hH:∀A,(ZL A).map (fun x=>r x.1)=H) (ZM:Bk O.g (jC O.d H) H K D=true) (U6:Ps O H D=true) (ZW:∀A,lG res (XJ A)=true) (lq:K.all (fun k=>iL k H)=true) (p8:gS d F.N=true):
  JM F ⟨d,.call ⟨.value (.func f),xs.toArray,ts⟩,ty,p,af,gd⟩ O ⟨iV d (res.map r) O.g,D++jC O.d H⟩:=by
 rintro a w ⟨⟨ρ,z,S⟩,hz,j4⟩;let A:Nat->Nat:=fun i=>B0 (ρ (r i)).v
 have G:∀i b,(ρ (r i)).v= .pointer (some ⟨b,0,none⟩)->A i=b:=fun i b h=>by show B0 (ρ (r i)).v=b;rw[h];rfl
 have U:∀q∈pins,(ρ (r q.1)).v= .pointer (some ⟨q.2,0,none⟩):=fun q hq=>by
  obtain⟨T,s,h⟩:=hp.at q hq;exact(z.own _ _ h).2 _ rfl
 have B:=(F6 A).spec z.own G;have V:∀k,(Un F.S0 ρ O.d k/\¬mV (fun i=>ρ (r i)) (ZL A) k)->k<w.heap.size:=by
  rintro k ⟨h |⟨i,u,M,Q⟩,_⟩
  ·exact X0 (z.low k h) z.size
  ·exact(z.fresh i u k M Q).2
 have R:Un (fun k=>Un F.S0 ρ O.d k/\¬mV (fun i=>ρ (r i)) (ZL A) k) (fun i=>ρ (r i)) (ZL A)=Un F.S0 ρ O.d:=by
  funext k;refine propext ⟨fun h=>?_,fun h=>?_⟩
  ·rcases h with h |⟨i,u,M,Q⟩
   ·exact h.1
   ·obtain⟨⟨L,C⟩,_⟩:=B i u M;exact .inr ⟨r i,L,C,Q⟩
  ·by_cases E:mV (fun i=>ρ (r i)) (ZL A) k
   ·exact .inr E
   ·exact .inl ⟨h,E⟩
 have X:Ins (fun k=>Un F.S0 ρ O.d k/\¬mV (fun i=>ρ (r i)) (ZL A) k) (fun i=>ρ (r i)) w (ZL A):=by
  refine⟨fun i u h=>?_,fun i u b h I=>?_,fun i u b h I h'=>h'.2 ⟨i,u,h,I⟩,fun i j u aa b hi hj bi bj=>?_⟩
  ·rw[R];exact(B i u h).2
  ·obtain⟨⟨L,C⟩,_⟩:=B i u h;exact(z.fresh _ _ b C I).2
  ·obtain⟨⟨L,C⟩,_⟩:=B i u hi;obtain⟨⟨fu,h4⟩,_⟩:=B j aa hj;exact hr _ _ (z.inj _ _ _ _ b C h4 bi bj)
 have K:=cK z S (Op.call ⟨.value (.func f),xs.toArray,ts⟩).operands;have hv:=ha.spec (ys:=(Op.call ⟨.value (.func f),xs.toArray,ts⟩).operands) (fun x hx=>by simp[Op.operands,Call.operands,hx]) K;refine XC.enter (uL ZE) ((hc A (fun p jh=>G _ _ (U p jh)) _ w _ _ V X (by rw[R];exact hv)).mono ?_);rintro e w' ⟨v,ρ',rfl,E⟩;exact⟨v,rfl,St.N2 hr z S hz j4 G (F6 A) (I4 A) (hH A) ZM U6 (ZW A) lq p8 E⟩
end
theorem XD.at2{β:Type}{P:aAe}{e:Nat->Nat->Wr β}{q:β}{ZL XJ:(Nat->Nat)->List (Nat×XB)}{res:Slot}(a p:Nat)(h:∀A:Nat->Nat,XD P [(9000,A 9000),(9100,A 9100)] (e (A 9000) (A 9100)) q (ZL A) res (XJ A)):
  ∀A:Nat->Nat,(∀z∈ [(9000,a),(9100,p)],A z.1=z.2)->XD P [(9000,a),(9100,p)] (e a p) q (ZL A) res (XJ A):=by
 intro A u;have B:A 9000=a:=u (9000,a) (by simp);have C:A 9100=p:=u (9100,p) (by simp);subst B;subst C;exact h A
theorem XA.at2{P:aAe}{f:aAf}{ss:Nat->Nat->List Slot}{ZL XJ:(Nat->Nat)->List (Nat×XB)}{res:Slot}(a p:Nat)(h:∀A:Nat->Nat,XA P f (ss (A 9000) (A 9100)) (ZL A) res (XJ A)):
  ∀A:Nat->Nat,(∀z∈ [(9000,a),(9100,p)],A z.1=z.2)->XA P f (ss a p) (ZL A) res (XJ A):=by
 intro A u;have B:A 9000=a:=u (9000,a) (by simp);have C:A 9100=p:=u (9100,p) (by simp);subst B;subst C;exact h A
end Go.Sw
namespace Go.Sw
open Go Go.RowKit
def aw{α:Type}(zs:List α)(lo hi m:Int):Option (List α):=if hi=m/\lo<hi then sub zs lo hi else none
theorem Js{α:Type}{zs ys:List α}{lo hi m:Int}(h:aw zs lo hi m=some ys):hi=m/\lo<hi/\sub zs lo hi=some ys:=by
 unfold aw at h;split at h
 ·rename_i u;exact⟨u.1,u.2,h⟩
 ·cases h
theorem BU{α:Type}{zs ys:List α}{lo hi m:Int}(h:aw zs lo hi m=some ys):ys≠ []:=by
 obtain⟨_,A,z⟩:=Js h;obtain⟨a,b,c,rfl⟩:=gW z;intro u;have:=congrArg List.length u;simp at this;omega
theorem Vj{P:aAe}{w:aAa}{n:Nat}{k:aAg}{lo:Int}(h0:0<=lo)(h1:lo<=n):(Instr.sliceBounds false n n (some (.int k lo)) none none).run P w= .ok (lo.toNat,n,n) w:=by
 simp[Instr.sliceBounds,Instr.sliceBound,asIntOf,h0,h1]
theorem Vk{P:aAe}{w:aAa}{n:Nat}{k k':aAg}{hi:Int}(h0:0<=hi)(h1:hi<=n):(Instr.sliceBounds false n n none (some (.int k hi)) (some (.int k' hi))).run P w= .ok (0,hi.toNat,hi.toNat) w:=by
 have h:hi<=(hi.toNat:Int):=by omega
 simp only[Instr.sliceBounds,Instr.sliceBound,asIntOf,Sem.run_bind,Sem.run_pure,Result.andThen_ok,h0,h1,h,and_self,r7]
theorem Yy{P:aAe}{w:aAa}{U E:aAb}{b off len m:Nat}{k:aAg}{lo:Int}(h0:0<=lo)(h1:lo<len)(hU:∀w,(underlying U).run P w= .ok (.array len E) w)(hE:∀w,(sizeOf E).run P w= .ok m w):(Instr.sliceAt U (.pointer (some ⟨b,off,none⟩)) (some (.int k lo)) none none).run P w= .ok (.slice (some ⟨b,off+lo.toNat*m,none⟩) (len - lo.toNat) (len - lo.toNat)) w:=by
 have h:¬len=lo.toNat:=by omega
 have u:¬lo.toNat=len:=by omega
 simp[Instr.sliceAt,hU,hE,Instr.sureAddr,Vj h0 (show lo<=(len:Int) by omega),h,Addr.add_lit]
theorem Yz{P:aAe}{w:aAa}{U E:aAb}{b off len m:Nat}{k k':aAg}{hi:Int}(h0:0<hi)(h1:hi<=len)(hU:∀w,(underlying U).run P w= .ok (.array len E) w)(hE:∀w,(sizeOf E).run P w= .ok m w):(Instr.sliceAt U (.pointer (some ⟨b,off,none⟩)) none (some (.int k hi)) (some (.int k' hi))).run P w= .ok (.slice (some ⟨b,off,none⟩) hi.toNat hi.toNat) w:=by
 have h:Addr.add ⟨b,off,none⟩ 0=⟨b,off,none⟩:=by rw[Addr.add_lit];rfl
 have u:¬hi.toNat=0:=by omega
 simp[Instr.sliceAt,hU,hE,Instr.sureAddr,Vk (aEe h0) h1,u,h]
section
variable {F:YP}{O:AS}{d:Option Tmp}{ty:aAb}{p:String}{af:Array Edge}{gd:Option (Nat×Bool)}{x y z:aAc}
theorem Za{α:Type}{e:Wr α}{zs ys:List α}{U E:aAb}{len:Nat}{lo:Int}{k:aAg}(hs:aw zs lo (len:Int) (len:Int)=some ys)(hx:dH O.g x=some (.ZH (Wr.arr len e) zs))(hy:dH O.g y=some (.v (Wr.int k) lo))(hlen:Nat.ble len 4294967296=true)
  (hU:∀w,(underlying U).run F.P w= .ok (.array len E) w) (hE:∀w,(sizeOf E).run F.P w= .ok e.n w):JO F ⟨d,.slice U x (some y) none none,ty,p,af,gd⟩ O (.v (Hz e) ys) []:=by
 intro ρ S a w K;have hlen:=E7 hlen;obtain⟨_,V,hs⟩:=Js hs;obtain⟨H,s1,s2,rfl⟩:=gW hs;have h:=K.slot x (by simp[Op.operands]) _ hx;have B:=(fY K (x:=y) (by simp[Op.operands]) hy).1;simp only[Slot.ok] at h;obtain⟨b,u,X,I,L,M,N,h5,Q⟩:=h;have z:((zs.take (len:Int).toNat).drop lo.toNat).length=len - lo.toNat:=by rw[Z2,I8];omega
 have C:(Wr.sl e).val ((zs.take (len:Int).toNat).drop lo.toNat) S w (.slice (some ⟨b,u+lo.toNat*e.n,none⟩) (len - lo.toNat) (len - lo.toNat)):=
  sP.2 ⟨_,_,by rw[z],⟨by rw[z];omega,by rw[z];omega⟩,.inr ⟨b,u+lo.toNat*e.n,_,rfl,L,M,(N.take ((len:Int).toNat*e.n)).drop (lo.toNat*e.n),wE _ (sZ _ Q)⟩⟩
 refine XC.value (w':=w) (v:= .slice (some ⟨b,u+lo.toNat*e.n,none⟩) (len - lo.toNat) (len - lo.toNat)) ?_ (ZC.same (by
  simp only[Slot.ok];obtain⟨R,T,A⟩:=C;refine⟨R,⟨T,fun a l c G=>?_⟩,A⟩;subst G;have D:(Value.slice (some ⟨b,u+lo.toNat*e.n,none⟩) (len - lo.toNat) (len - lo.toNat))= .slice a l c:=A;injection D with _ e1 e2
  omega))
 simp[execOp,I,B,Yy H (show lo<(len:Int) by omega) hU hE]
theorem EB{α:Type}{e:Wr α}{zs ys:List α}{U E:aAb}{len:Nat}{hi m:Int}{k k':aAg}(hs:aw zs 0 hi m=some ys)(hx:dH O.g x=some (.ZH (Wr.arr len e) zs))(hy:dH O.g y=some (.v (Wr.int k) hi))(hz:dH O.g z=some (.v (Wr.int k') m))(hlen:Nat.ble len 4294967296=true)
  (hU:∀w,(underlying U).run F.P w= .ok (.array len E) w) (hE:∀w,(sizeOf E).run F.P w= .ok e.n w):JO F ⟨d,.slice U x none (some y) (some z),ty,p,af,gd⟩ O (.v (Hz e) ys) []:=by
 intro ρ S a w K;have hlen:=E7 hlen;obtain⟨rfl,L,hs⟩:=Js hs;obtain⟨s0,s1,s2,rfl⟩:=gW hs;have h:=K.slot x (by simp[Op.operands]) _ hx;have C:=(fY K (x:=y) (by simp[Op.operands]) hy).1;have D:=(fY K (x:=z) (by simp[Op.operands]) hz).1;simp only[Slot.ok] at h;obtain⟨b,u,ds,M,N,Q,R,h5,T⟩:=h;have A:((zs.take hi.toNat).drop (0:Int).toNat).length=hi.toNat:=by rw[Z2,I8];simp only[Int.toNat_zero];omega
 have G:(Wr.sl e).val ((zs.take hi.toNat).drop (0:Int).toNat) S w (.slice (some ⟨b,u,none⟩) hi.toNat hi.toNat):=
  sP.2 ⟨_,_,by rw[A],⟨by rw[A];omega,by rw[A];omega⟩,.inr ⟨b,u,_,rfl,N,Q,R.take (hi.toNat*e.n),by simpa using sZ _ T⟩⟩
 refine XC.value (w':=w) (v:= .slice (some ⟨b,u,none⟩) hi.toNat hi.toNat) ?_ (ZC.same (by
  simp only[Slot.ok];obtain⟨V,X,B⟩:=G;refine⟨V,⟨X,fun a l c I=>?_⟩,B⟩;subst I;have H:(Value.slice (some ⟨b,u,none⟩) hi.toNat hi.toNat)= .slice a l c:=B;injection H with _ e1 e2
  omega))
 simp[execOp,M,C,D,Yz L (show hi<=(len:Int) by omega) hU hE]
theorem Ra{α:Type}{e:Wr α}{zs ys:List α}{U E:aAb}{len:Nat}{hi:Int}{k:aAg}(hs:sub zs 0 hi=some ys)(hx:dH O.g x=some (.ZH (Wr.arr len e) zs))(hy:dH O.g y=some (.v (Wr.int k) hi))(hlen:Nat.ble len 4294967296=true)
  (hU:∀w,(underlying U).run F.P w= .ok (.array len E) w) (hE:∀w,(sizeOf E).run F.P w= .ok e.n w):JO F ⟨d,.slice U x none (some y) none,ty,p,af,gd⟩ O (.v (Wr.sl e) ys) []:=by
 intro ρ S a w K;have hlen:=E7 hlen;obtain⟨I,s1,s2,rfl⟩:=gW hs;have h:=K.slot x (by simp[Op.operands]) _ hx;have A:=(fY K (x:=y) (by simp[Op.operands]) hy).1;simp only[Slot.ok] at h;obtain⟨b,z,L,B,C,D,G,M,H⟩:=h;have u:((zs.take hi.toNat).drop (0:Int).toNat).length=hi.toNat:=by rw[Z2,I8];simp only[Int.toNat_zero];omega
 refine XC.value (w':=w) (v:= .slice (some ⟨b,z,none⟩) hi.toNat len) ?_ (ZC.same (by
  simp only[Slot.ok]
  exact sP.2 ⟨_,_,by rw[u],⟨by rw[u];omega,by rw[u];omega⟩,.inr ⟨b,z,_,rfl,C,D,G.take (hi.toNat*e.n),by simpa using sZ _ H⟩⟩))
 simp[execOp,B,A,Yq s1 (show hi<=(len:Int) by omega) hU hE]
def S6(O:AS)(xs:List aAc)(ss:List Slot):Prop:=
 ∀(F:YP) (ρ:Nat->LV) (a:aAm) (w:aAa),Core F O.d ρ w->(∀t s,lk O.g t=some s->s.ok ρ (Un F.S0 ρ O.d) w (a.tmps.getD t undef))->aX ρ (fun _=>False) w ss (xs.map a.eval)
theorem S6.nil:S6 O [] []:=fun _ _ _ _ _ _=>by simp[aX]
theorem S6.cons{s:Slot}{xs:List aAc}{l:List Slot}(h:Arg O true x s)(k:S6 O xs l):S6 O (x::xs) (s::l):=by
 intro F ρ a w r6 hs;have u:=h _ _ _ _ (cK r6 hs #[x]);simp only[r7] at u;simp only[aX,L4];exact⟨_,_,rfl,u,k F ρ a w r6 hs⟩
theorem S6.fn1{α:Type}{g i j:Nat}{T T2:aAb}{e:Wr α}{v:α}{bl l:List Slot}{pb pb2:Option Nat}{xs:List aAc}(h:dH O.g x=some (.o7 g [.ptr i 0]))(he:aY O.d i=some (.box T [.ptr j 0] pb))(he2:aY O.d j=some (.box T2 bl pb2))(hs:N3 bl e v)(k:S6 O xs l):
  S6 O (x::xs) (.o7 g [.ZH (Wr.G1 e) (some v)]::l):=by
 intro F ρ a w r6 ZM;have A:=(cK r6 ZM #[x]).slot x (by simp) _ h;simp only[aX,L4];refine⟨_,_,rfl,?_,k F ρ a w r6 ZM⟩;simp only[Slot.ok] at A ⊢;obtain⟨vs,N,C⟩:=A;refine⟨vs,N,?_⟩;simp only[aX] at C ⊢;obtain⟨u,P,rfl,D,Q⟩:=C;refine⟨u,P,rfl,?_,Q⟩;have L:=(r6.own i _ he);have M:=(r6.own j _ he2);simp only[Slot.ok] at D;obtain⟨⟨b,E⟩,R⟩:=D;obtain⟨⟨G,cs,H,I,K⟩,_⟩:=L;obtain rfl:G=b:=by rw[E] at H;simpa using H.symm
 simp only[bO] at K;obtain⟨c,ds,rfl,z,rfl⟩:=K;obtain⟨q,rfl,S⟩:∃q,c=[q]/\(Slot.ptr j 0).ok ρ (Un F.S0 ρ O.d) w q:=by
  simp only[Slot.j9] at z;exact⟨_,z.2,by exact⟨z.1,rfl⟩⟩
 have B:=Yp S M hs;simp only[Slot.ok] at B;obtain⟨U,V,X,k1,k2,k3,k4,k5⟩:=B;refine⟨G,0,_,by rw[R,E];rfl,(XK.of_heap I).lt,fun h=>h,XK.of_heap I,?_⟩;exact⟨U,V,X,by simp[k1],k2,k3,k4,k5⟩
theorem IE{f:aAf}{xs:List aAc}{ts:Array aAb}{ss:List Slot}{res:Slot}(hc:XL F.P f ss res [])(ZE:∀args w,(callFunc f args).run F.P w= .ok (.enter f args) w)
  (ha:S6 O xs ss) (hf:YZ res) (hd:gS d F.N=true):JM F ⟨d,.call ⟨.value (.func f),xs.toArray,ts⟩,ty,p,af,gd⟩ O (O.put d res []):=by
 rintro a w ⟨⟨ρ,z,A⟩,B,C⟩;refine XC.enter (uL ZE) ?_;refine(hc (fun _=>False) w _ ρ (fun _ h=>h.elim) (ha F ρ a w z A)).mono ?_;rintro e I ⟨v,rfl,ρ',D,E,G,K⟩;exact⟨v,rfl,St.put z A B C rfl hd ⟨ρ',D,E,hf _ _ _ _ _ G,⟨fun i u h=>by simp[aY] at h,fun i u b h=>by simp[aY] at h,fun i j u H b h=>by simp[aY] at h⟩⟩⟩
end
end Go.Sw
namespace Go.Sw
open Go Go.RowKit
def IF{α:Type}(l:List α):Option Unit:=if l.isEmpty then none else some ()
theorem Nn{α:Type}{l:List α}{u:Unit}(h:IF l=some u):l≠ []:=by
 intro e;subst e;cases h
theorem QT{α:Type}{e:Wr α}{v:Bool×List α}:∀S w cs,(Wr.M6 e).ok v S w cs->(Wr.sl e).ok v.2 S w cs:=fun _ _ _ h=>h.1
theorem IG{α:Type}{e:Wr α}{xs:List α}(h:xs≠ []):∀S w cs,(Wr.sl e).ok xs S w cs->(Wr.M6 e).ok (false,xs) S w cs:=by
 rintro S w cs ⟨a,B,A,C,u⟩;refine⟨⟨a,B,A,C,u⟩,fun D l c z=>?_⟩;rcases u with u |⟨b,E,F,rfl,_⟩
 ·exact absurd u h
 ·rw[A] at z;simp at z;rw[<-z.1];rfl
theorem eh.unN{α:Type}{e:Wr α}{v:Bool×List α}{O:AS}{r:Nat->Nat}{ls:List Nat}:eh O r ls (.v (Wr.M6 e) v) (.v (Wr.sl e) v.2):= .enc QT (fun _=>rfl)
section
variable {F:YP}{O:AS}{d:Option Tmp}{ty:aAb}{p:String}{af:Array Edge}{gd:Option (Nat×Bool)}{x y z:aAc}{α:Type}{e:Wr α}
theorem QU{o:aAi}{xs:List α}{new:List (Nat×XB)}(j5:xs≠ [])(h:JO F o O (.v (Wr.sl e) xs) new):JO F o O (.v (Wr.M6 e) (false,xs)) new:=by
 intro ρ S a w K;refine(h ρ S a w K).mono ?_;rintro u H ⟨ρ',D,E,z,G⟩;refine⟨ρ',D,E,?_,G⟩;simp only[Slot.ok] at z ⊢;obtain⟨A,B,C⟩:=z;exact⟨A,IG j5 _ _ _ B,C⟩
theorem zN(e:Wr α):JO F ⟨d,.assign (.const (.slice none 0 0)),ty,p,af,gd⟩ O (.v (Wr.M6 e) (true,[])) []:=by
 intro ρ S a w K;refine XC.value (w':=w) (v:= .slice none 0 0) (by simp[execOp,Act.eval]) (ZC.same ?_);simp only[Slot.ok];exact⟨[.slice none 0 0],⟨⟨none,0,rfl,by simp,.inl rfl⟩,fun a l c h=>by simp at h;rw[<-h.1];rfl⟩,rfl⟩
theorem Rb{v:Bool×List α}{T T' E:aAb}(hx:dH O.g x=some (.v (Wr.M6 e) v))(hT:∀w,(underlying T).run F.P w= .ok (.slice E) w):JO F ⟨d,.binOp .neq T x (.const (.slice none 0 0)) T',ty,p,af,gd⟩ O (.v Wr.bool (!v.1)) []:=by
 intro ρ S a w K;have h:=K.slot x (by simp[Op.operands]) _ hx;simp only[Slot.ok] at h;obtain⟨b,xs⟩:=v;obtain⟨_,u,l,c,A,rfl⟩:=Sp h;have z:=run_equalIn_slice_nil (P:=F.P) w 9999 T E u l c (rC hT);refine XC.value (w':=w) (v:= .bool (!u.isNone)) ?_ (ZC.same (nR _ ρ S w));exact Yj (r:=u.isNone) (.inr ⟨rfl,rfl⟩) A rfl (by intros;simp) (by intros;simp) (by intros;simp) (by intros;simp) (by simp[eqGuard,Act.eval]) z
theorem yY{β:Type}{v:α}{e':Wr β}{z':β}{T U:aAb}{l:List Slot}{pb:Option Nat}{i n off o1:Nat}(hn:n=off+o1)(hx:dH O.g x=some (.ptr i n))(he:aY O.d i=some (.box T l pb))(ho:nP l off=some (.v e v))(hp:xl e v o1 e' z')
  (hA:∀w,(isAgg U).run F.P w= .ok e'.agg w) (hS:∀w,(sizeOf U).run F.P w= .ok e'.n w):JO F ⟨d,.load U x,ty,p,af,gd⟩ O (.v e' z') []:=by
 subst hn;intro ρ S a w K;obtain⟨b,I,L,E,G,H⟩:=zZ K (by simp[Op.operands]) hx he;obtain⟨h,c,z,rfl,rfl,A,_⟩:=vK ho H;simp only[Slot.j9] at A;obtain⟨u,c',B,rfl,rfl,C⟩:=hp _ _ c A;have D:XK w b (h.length+u.length) c':=by
  have:=XK.of_heap G;rw[show h++(u++(c'++B)++z)=(h++u)++(c'++(B++z)) by simp] at this;have:=this.sub;simpa using this
 refine XC.value (w':=w) (v:=e'.pk c') ?_ (ZC.same (by simp only[Slot.ok];exact⟨c',C,rfl⟩));have:=Gl (P:=F.P) D C hA hS;simp[execOp,E,Instr.loadAt,Instr.sureAddr,this]
end
end Go.Sw
namespace Go.Sw
open Go Go.RowKit
section
variable {F:YP}{ops:Array aAi}{o:aAi}{os:List aAi}{O O' jk:AS}{s:Slot}{new:List (Nat×XB)}
theorem J.k(h:JO F o O s new)(k:J F ops os (O.put o.dst s new) O')(g:o.guard= .none:=by rfl)(hf:O.free new=true:=by rfl)(hd:gS o.dst F.N=true:=by rfl):J F ops (o::os) O O':=J.cons (.none g) h hf hd k
theorem J.mv{d:Option Tmp}{x:aAc}{ty:aAb}{p:String}{af:Array Edge}(hx:dH O.g x=some s)(k:J F ops os (O.put d s []) O')(hd:gS d F.N=true:=by rfl):J F ops (⟨d,.move x,ty,p,af,none⟩::os) O O':=J.cons (.none rfl) (aD hx) rfl hd k
theorem J.t(h:JM F o O O')(k:J F ops os O' jk)(g:o.guard= .none:=by rfl):J F ops (o::os) O jk:=AV (.none g) h k
end
theorem dj.c{O:AS}{r:Nat->Nat}{ls:List Nat}{t:Nat}{s':Slot}{g:List (Nat×Slot)}(h:lk O.g t=some (s'.map r))(k:dj O r ls g):dj O r ls ((t,s')::g):= .cons h .same k
theorem aq.c{O:AS}{r:Nat->Nat}{ls:List Nat}{s s':Slot}{l l':List Slot}(h:s=s'.map r)(k:aq O r ls l l'):aq O r ls (s::l) (s'::l'):= .cons (.of_eq h) k
end Go.Sw
namespace Go.Sw
open Go Go.RowKit
section
variable {F:YP}{O:AS}{pb:Option Nat}{ty:aAb}{p:String}{af:Array Edge}{gd:Option (Nat×Bool)}{x y z:aAc}
theorem wB{T U:aAb}{l l':List Slot}{i off n:Nat}(pn qn:Nat)(hx:dH O.g x=some (.ptr i off))(he:aY O.d i=some (.box T l pb))(h1:Nat.beq (HH (l.take pn)) off=true)(h2:Nat.beq (HH ((l.drop pn).take qn)) n=true)(hy:dH O.g y=some (.agg l'))(ae:Nat.beq (HH l') n=true)(hnt:l'.all Slot.plain=true)
  (hS:∀w,(sizeOf U).run F.P w= .ok n w):JM F ⟨none,.store U x y,ty,p,af,gd⟩ O ⟨O.g,(i,.box T (Sl l pn qn l') pb)::O.d⟩:=by
 replace ae:=D6 ae;refine qH he rfl fun ρ a w A B=>?_;have K:=cK A B (Op.store U x y).operands;obtain⟨b,V,C,L,D,M⟩:=zZ K (x:=x) (by simp[Op.operands]) hx he;have z:=Kn B hy;simp only[Slot.ok] at z;obtain⟨N,h,u⟩:=z;obtain⟨E,c,G,rfl,Q,R,S⟩:=Mw h1 h2 M;have H:=lH (P:=F.P) (w:=w) (U:=U) (a:=E) (c:=c) (e:=G) (v:=a.eval y) hS (by rw[h];simp[Value.cells,Lw u,ae]) (by rw[h];simpa[Value.cells] using DO hnt u) D Q R;refine⟨b,w.setRow b (E++((a.eval y).cells.toList++G)).toArray,.inl (by rw[C];rfl),ee.setRow w b _,?_,fun I=>?_⟩
 ·exact lI L H
 ·refine⟨⟨b,_,C,setRow_heap w b _ _ T _ D,?_⟩,(A.own i _ he).2⟩;refine fW _ _ ?_ I (fun _ _=>rfl);rw[h];simpa[Value.cells] using S N u
end
def vC:List (Nat×Nat)->Nat->Nat
 | [],i=>i+1000000000
 | (a,b)::l,i=>bif Nat.beq a i then b else vC l i
def TD:List (Nat×Nat)->Bool
 | []=>true
 | (_,b)::l=>Nat.blt b 1000000000 && (l.all fun q=> !Nat.beq q.2 b) && TD l
theorem IH:∀(l:List (Nat×Nat)) (i:Nat),(∃q∈l,vC l i=q.2)\/vC l i=i+1000000000
 | [],i=> .inr rfl
 | (a,b)::l,i=>by
  unfold vC;cases Nat.beq a i with
  |true=>exact .inl ⟨(a,b),dg,rfl⟩
  |false=>
   rcases IH l i with⟨q,u,z⟩| h
   ·exact .inl ⟨q,cz _ u,z⟩
   ·exact .inr h
theorem II:∀(l:List (Nat×Nat)),TD l=true->∀q∈l,q.2<1000000000
 | [],_,q,h=>by simp at h
 | (a,b)::l,h,q,u=>by
  simp only[TD,K0] at h;rcases B1.1 u with rfl | u
  ·exact E7 h.1.1
  ·exact II l h.2 q u
theorem dF:∀{l:List (Nat×Nat)},TD l=true->∀i j,vC l i=vC l j->i=j
 | [],_,i,j,h=>by unfold vC at h;omega
 | (a,b)::l,A,i,j,h=>by
  have C:=II _ A;simp only[TD,K0] at A;have D:=C (a,b) dg;have B:∀i,vC l i≠b:=by
   intro i e;rcases IH l i with⟨q,z,u⟩| u
   ·have:=y8.1 A.1.2 q z;rw[<-u,e] at this;simp at this
   ·simp only at D;omega
  unfold vC at h;cases z:Nat.beq a i with
  |true=>
   cases u:Nat.beq a j with
   |true=>rw[<-D6 z,<-D6 u]
   |false=>rw[z,u] at h;exact absurd h.symm (B j)
  |false=>
   cases u:Nat.beq a j with
   |true=>rw[z,u] at h;exact absurd h (B i)
   |false=>rw[z,u] at h;exact dF A.2 i j h
end Go.Sw
namespace Go.Sw
open Go Go.RowKit
theorem Rc{β:Type}{κ:aAg}{f:Wr β}{S:Nat->Prop}{w1:aAa}(k:Int):∀(m:List (Int×β)) (es:List MapEntry) (i:Nat),Ye (Wr.int κ) f S w1 m es->
  Instr.findNow (.int κ) (.int κ k) es i=some ((kp (m.map (·.1)) k).bind fun j=>(es[j]?).map fun x=>(i+j,x.val))
 | [],[],i,_=>by simp[Instr.findNow,kp]
 | (a,b)::m,x::xs,i,⟨⟨E,B,C⟩,F,D⟩=>by
  have u:x.key= .int κ a:=by rw[C];rw[B.1];rfl
  have z:=Rc k m xs (i+1) D;simp only[Instr.findNow,u,Instr.sameNow,r7,L4,kp];by_cases c:a=k
  ·subst c;simp
  ·have A:(k==a)=false:=(by simp;exact fun h=>c h.symm);rw[A,XV c];simp only[z];cases kp (m.map (·.1)) k with
   |none=>rfl
   |some j=>simp[aDu,aDg 1 j]
 | [],_::_,_,h=>h.elim
 |_::_,[],_,h=>h.elim
theorem Ie{β:Type}{κ:aAg}{f:Wr β}{S:Nat->Prop}{w1:aAa}(k:Int):∀(m:List (Int×β)) (es:List MapEntry),Ye (Wr.int κ) f S w1 m es->
  (kp (m.map (·.1)) k=none->fR m k=none)/\∀j,kp (m.map (·.1)) k=some j->∃v x,fR m k=some v/\es[j]? =some x/\f.val v S w1 x.val
 | [],[],_=>⟨fun _=>rfl,fun j h=>by simp[kp] at h⟩
 | (a,b)::m,x::xs,⟨G,D,E⟩=>by
  obtain⟨u,z⟩:=Ie k m xs E;simp only[L4,kp,fR];by_cases c:a=k
  ·rw[YC c,YC c];exact⟨fun h=>by simp at h,fun j h=>by simp at h;subst h;exact⟨b,x,rfl,rfl,D⟩⟩
  ·rw[XV c,XV c];refine⟨fun h=>u (by simpa using h),fun j h=>?_⟩;cases hk:kp (m.map (·.1)) k with
   |none=>rw[hk] at h;simp at h
   |some F=>
    rw[hk] at h;simp at h;subst h;obtain⟨v,y,A,B,C⟩:=z F hk;exact⟨v,y,A,by simpa using B,C⟩
 | [],_::_,h=>h.elim
 |_::_,[],h=>h.elim
theorem Fb{β:Type}{κ:aAg}{P:aAe}{T:aAb}{f:Wr β}{S:Nat->Prop}{w1:aAa}(hT:∀w,(underlying T).run P w= .ok (.int κ) w)(k:Int)(w:aAa)(m:List (Int×β))(es:List MapEntry)(h:Ye (Wr.int κ) f S w1 m es):
  (Instr.findKey T (.int κ k) es).run P w= .ok ((kp (m.map (·.1)) k).bind fun j=>(es[j]?).map fun x=>(j,x.val)) w:=by
 have:=Rc k m es 0 h;simp only[aC5] at this;simp only[Instr.findKey,Sem.run_bind,hT,Result.andThen_ok,this];rfl
section
variable {F:YP}{O:AS}{d:Option Tmp}{ty:aAb}{p:String}{af:Array Edge}{gd:Option (Nat×Bool)}{x y z:aAc}{β:Type}{κ:aAg}{n':Nat}{M KT KT' VT:aAb}{f:Wr β}{m m':List (Int×β)}{i:Nat}{k:Int}
theorem No{u:β}{zv:aAd}(hx:dH O.g x=some (.ref i))(hd:aY O.d i=some (.mp (Wr.int κ) f m))(hy:dH O.g y=some (.v (Wr.int κ) k))
  (hM:∀w,(underlying M).run F.P w= .ok (.map KT VT) w) (hT:∀w,(underlying KT).run F.P w= .ok (.int κ) w) (hk:B8 n' F.P KT (Wr.int κ)) (M3:Nat.ble n' 10000=true)
  (hz:∀w,(zeroValue VT).run F.P w= .ok zv w) (jd:∀S w,f.val u S w zv):JO F ⟨d,.lookup M x y true,ty,p,af,gd⟩ O (.XU [.v f ((fR m k).getD u),.v Wr.bool (fR m k).isSome]) []:=by
 intro ρ S a w K;obtain⟨E,N,_⟩:=yW K (x:=x) (by simp[Op.operands]) hx hd;obtain⟨b,C,ck,G,Q,H⟩:=N;have h:=K.slot y (by simp[Op.operands]) _ hy;simp only[Slot.ok] at h;obtain⟨I,h,R⟩:=h;have A:a.eval y= .int κ k:=by rw[R,h.1];rfl
 have z:=Fb hT k w m C.toList H;have B:=hk 10000 (E7 M3) C.isEmpty w S w k I h;have L:(Wr.int κ).pk I= .int κ k:=by rw[h.1];rfl
 rw[L] at B;have D:=MapKept.run_getObj_map (P:=F.P) Q;obtain⟨T,U⟩:=Ie k m C.toList H;have XU:∀{v:aAd} {t:β} {c:Bool},f.val t S w v->(Slot.XU [.v f t,.v Wr.bool c]).ok ρ S w (.tuple #[v,.bool c]):=by
  intro v t c A;simp only[Slot.ok];refine⟨[v,.bool c],rfl,?_⟩;simp only[aX,Slot.ok];exact⟨v,[.bool c],rfl,A,.bool c,[],rfl,⟨[.bool c],rfl,rfl⟩,rfl⟩
 cases hm:kp (m.map (·.1)) k with
 |none=>
  rw[hm] at z;have:=T hm;rw[this];refine XC.value (w':=w) (v:= .tuple #[zv,.bool false]) ?_ (ZC.same (XU (jd _ _)));simp[execOp,E,G,A,Instr.lookup,hM,D,B,z,hz]
 |some j=>
  rw[hm] at z;obtain⟨v,q,V,X,e3⟩:=U j hm;rw[V];rw[cM,X] at z;refine XC.value (w':=w) (v:= .tuple #[q.val,.bool true]) ?_ (ZC.same (XU e3));simp[execOp,E,G,A,Instr.lookup,hM,D,B,z]
theorem Vl{u:β}{zv:aAd}(hx:dH O.g x=some (.ref i))(hd:aY O.d i=some (.mp (Wr.int κ) f m))(hy:dH O.g y=some (.v (Wr.int κ) k))
  (hM:∀w,(underlying M).run F.P w= .ok (.map KT VT) w) (hT:∀w,(underlying KT).run F.P w= .ok (.int κ) w) (hk:B8 n' F.P KT (Wr.int κ)) (M3:Nat.ble n' 10000=true)
  (hz:∀w,(zeroValue VT).run F.P w= .ok zv w) (jd:∀S w,f.val u S w zv):JO F ⟨d,.lookup M x y false,ty,p,af,gd⟩ O (.v f ((fR m k).getD u)) []:=by
 intro ρ S a w K;obtain⟨E,N,_⟩:=yW K (x:=x) (by simp[Op.operands]) hx hd;obtain⟨b,B,ck,G,Q,H⟩:=N;have h:=K.slot y (by simp[Op.operands]) _ hy;simp only[Slot.ok] at h;obtain⟨I,h,R⟩:=h;have C:a.eval y= .int κ k:=by rw[R,h.1];rfl
 have z:=Fb hT k w m B.toList H;have A:=hk 10000 (E7 M3) B.isEmpty w S w k I h;have L:(Wr.int κ).pk I= .int κ k:=by rw[h.1];rfl
 rw[L] at A;have D:=MapKept.run_getObj_map (P:=F.P) Q;obtain⟨T,U⟩:=Ie k m B.toList H;cases hm:kp (m.map (·.1)) k with
 |none=>
  rw[hm] at z;have:=T hm;rw[this];refine XC.value (w':=w) (v:=zv) ?_ (ZC.same (by simp only[Slot.ok];exact jd _ _));simp[execOp,E,G,C,Instr.lookup,hM,D,A,z,hz]
 |some j=>
  rw[hm] at z;obtain⟨v,q,V,X,e3⟩:=U j hm;rw[V];rw[cM,X] at z;refine XC.value (w':=w) (v:=q.val) ?_ (ZC.same (by simp only[Slot.ok];exact e3));simp[execOp,E,G,C,Instr.lookup,hM,D,A,z]
theorem Np{v:β}(hm:Hr m k v=some m')(hx:dH O.g x=some (.ref i))(hd:aY O.d i=some (.mp (Wr.int κ) f m))(hy:dH O.g y=some (.v (Wr.int κ) k))(hz:dH O.g z=some (.v f v))
  (hM:∀w,(underlying M).run F.P w= .ok (.map KT VT) w) (hT:∀w,(underlying KT).run F.P w= .ok (.int κ) w) (hk:B8 n' F.P KT (Wr.int κ)) (M3:Nat.ble n' 10000=true):
  JM F ⟨none,.mapUpdate M x y z,ty,p,af,gd⟩ O ⟨O.g,(i,.mp (Wr.int κ) f m')::O.d⟩:=by
 obtain⟨aa,rfl⟩:=Qq hm;refine qH hd rfl fun ρ a w hc hs=>?_;have K:=cK hc hs (Op.mapUpdate M x y z).operands;obtain⟨h1,h2,_⟩:=yW K (x:=x) (by simp[Op.operands]) hx hd;obtain⟨b,u,A,C,D,E⟩:=h2;have h:=K.slot y (by simp[Op.operands]) _ hy;have G:=K.slot z (by simp[Op.operands]) _ hz;simp only[Slot.ok] at h G;have R:=h;obtain⟨N,h,yc⟩:=h;have S:a.eval y= .int κ k:=by rw[yc,h.1];rfl
 have H:=Fb hT k w m u.toList E;have T:kp (m.map (·.1)) k=none:=by
  cases hkp:kp (m.map (·.1)) k with
  |none=>rfl
  |some j=>obtain⟨v,_,Q,_⟩:=(Ie k m u.toList E).2 j hkp;rw[aa] at Q;cases Q
 rw[T] at H;have I:=hk 10000 (E7 M3) false w _ w k N h;have U:(Wr.int κ).pk N= .int κ k:=by rw[h.1];rfl
 rw[U] at I;have V:=MapKept.run_getObj_map (P:=F.P) D;have X:=fun o=>MapKept.run_setObj_map (P:=F.P) o D;have L:=MapKept.heap_set (o':= .map (u.push { key:=a.eval y,val:=a.eval z,born:=A }) (A+1)) D;refine⟨b,{ w with heap:=w.heap.setIfInBounds b (.map (u.push { key:=a.eval y,val:=a.eval z,born:=A }) (A+1)) },.inl (by rw[C];rfl),⟨by simp,L.2,rfl,rfl,rfl⟩,?_,fun B=>?_⟩
 ·simp[execOp,h1,C,S,Instr.mapUpdate,hM,V,I,H,X]
 ·refine⟨b,_,_,C,L.1,?_⟩;rw[aDl];exact My (gT R B) (gT G B) (zU B E)
theorem Rd{α:Type}{e:Wr α}{S:Nat->Prop}{w:aAa}:∀{m:List (α×β)} {es:List MapEntry} (q:Nat),Ye e f S w m es->Ye e f S w (m.eraseIdx q) (es.eraseIdx q)
 | [],[],_,_=>trivial
 | (_,_)::_,_::_,0,⟨_,_,h⟩=>h
 | (_,_)::_,_::_,q+1,⟨u,z,A⟩=>⟨u,z,Rd q A⟩
 | [],_::_,_,h=>h.elim
 |_::_,[],_,h=>h.elim
theorem Nq(hx:dH O.g x=some (.ref i))(hd:aY O.d i=some (.mp (Wr.int κ) f m))(hy:dH O.g y=some (.v (Wr.int κ) k))
  (hM:∀w,(underlying M).run F.P w= .ok (.map KT VT) w) (hT:∀w,(underlying KT).run F.P w= .ok (.int κ) w) (hk:B8 n' F.P KT (Wr.int κ)) (M3:Nat.ble n' 10000=true):
  JM F ⟨none,.call ⟨.builtin .delete,#[x,y],#[M,KT']⟩,ty,p,af,gd⟩ O ⟨O.g,(i,.mp (Wr.int κ) f (Gt m k))::O.d⟩:=by
 rintro a w ⟨⟨ρ,S,T⟩,B4,j4⟩;have K:=cK S T (Op.call ⟨.builtin .delete,#[x,y],#[M,KT']⟩).operands;obtain⟨Q,h2,_⟩:=yW K (x:=x) (by simp[Op.operands,Call.operands]) hx hd;obtain⟨b,A,B,C,G,D⟩:=h2;have h:=K.slot y (by simp[Op.operands,Call.operands]) _ hy;simp only[Slot.ok] at h;obtain⟨R,h,yc⟩:=h;have H:a.eval y= .int κ k:=by rw[yc,h.1];rfl
 have u:=Fb hT k w m A.toList D;have E:=hk 10000 (E7 M3) A.isEmpty w _ w k R h;have U:(Wr.int κ).pk R= .int κ k:=by rw[h.1];rfl
 rw[U] at E;have I:=MapKept.run_getObj_map (P:=F.P) G;have L:=fun o=>MapKept.run_setObj_map (P:=F.P) o G;have V:j1 (ρ i).v=some b:=by rw[C];rfl
 obtain⟨z,K9,aa⟩:∃z:Array MapEntry,(execOp a.eval ⟨none,.call ⟨.builtin .delete,#[x,y],#[M,KT']⟩,ty,p,af,gd⟩).run F.P w= .ok (.value (.tuple #[])) { w with heap:=w.heap.setIfInBounds b (.map z B) }/\Ye (Wr.int κ) f (Un F.S0 ρ O.d) w (Gt m k) z.toList:=by
  unfold Gt;cases hkp:kp (m.map (·.1)) k with
  |none=>
   rw[hkp] at u;simp only[Option.bind_none] at u;exact⟨A,by simp[execOp,resolve,invoke,builtin,Builtin.delete_,Q,C,H,hM,I,E,u,L],D⟩
  |some q=>
   rw[hkp] at u;obtain⟨_,xq,_,e2,_⟩:=(Ie k m A.toList D).2 q hkp;rw[cM,e2] at u;refine⟨A.eraseIdxIfInBounds q,by simp[execOp,resolve,invoke,builtin,Builtin.delete_,Q,C,H,hM,I,E,u,L],?_⟩;simp only[Array.toList_eraseIdxIfInBounds];exact Rd q D
 have N:=MapKept.heap_set (o':= .map z B) G;refine XC.value K9 ?_
 obtain⟨k1,k2⟩:=S.upd (en':= .mp (Wr.int κ) f (Gt m k)) hd (.inl V) (b:=b) (w':={ w with heap:=w.heap.setIfInBounds b (.map z B) }) ⟨by simp,N.2,rfl,rfl,rfl⟩ (fun X=>by
  exact⟨b,z,B,C,N.1,zU X aa⟩)
 exact⟨⟨ρ,k1,fun t s ht=>Slot.WY s _ (T t s ht) k2 (fun _ _=>rfl)⟩,B4,j4⟩
end
end Go.Sw
namespace Go.Sw
open Go Go.RowKit
def Fc(gs:List aAf):Wr Nat where
 n:=1
 agg:=false
 ok i _ _ cs:=(∃g,gs[i]? =some g/\cs=[.func (.func g) #[] #[]])\/(gs[i]? =none/\cs=[.nilFunc])
 len h:=by rcases h with⟨_,_,rfl⟩|⟨_,rfl⟩<;>rfl
 one _:=rfl
 cell h c hc:=by rcases h with⟨_,_,rfl⟩|⟨_,rfl⟩<;>(simp at hc;subst hc;rfl)
 mono h _:=h
theorem ND{gs:List aAf}{i:Nat}{g:aAf}{S:Nat->Prop}{w:aAa}{u:aAd}(hg:gs[i]? =some g)(h:(Fc gs).val i S w u):u= .func (.func g) #[] #[]:=by
 obtain⟨A,h,rfl⟩:=h;rcases h with⟨B,z,rfl⟩|⟨z,rfl⟩
 ·rw[hg] at z;cases z;rfl
 ·rw[hg] at z;cases z
section
variable {F:YP}{O:AS}{d:Option Tmp}{ty:aAb}{p:String}{af:Array Edge}{gd:Option (Nat×Bool)}{x y z:aAc}
theorem Arg.toN{α:Type}{e:Wr α}{xs:List α}{l8:Bool}(j5:xs≠ [])(h:dH O.g x=some (.v (Wr.sl e) xs)):Arg O l8 x (.v (Wr.M6 e) (false,xs)):=by
 have z:Arg O l8 x (.v (Wr.sl e) xs):= .dir h;intro ρ S a w K;have u:=z ρ S a w K;simp only[Slot.ok] at u ⊢;obtain⟨A,B,C⟩:=u;exact⟨A,IG j5 _ _ _ B,C⟩
theorem rE{o:aAi}{g:aAf}{new:List (Nat×XB)}(gs:List aAf)(i:Nat)(hg:gs[i]? =some g)(h:JO F o O (.o7 g []) new):JO F o O (.v (Fc gs) i) new:=by
 intro ρ S a w K;refine(h ρ S a w K).mono ?_;rintro u E ⟨ρ',B,C,A,D⟩;refine⟨ρ',B,C,?_,D⟩;simp only[Slot.ok] at A ⊢;obtain⟨vs,rfl,z⟩:=A;simp only[aX] at z;subst z;exact⟨[.func (.func g) #[] #[]],.inl ⟨g,hg,rfl⟩,rfl⟩
theorem Ch(gs:List aAf)(i:Nat)(hg:gs[i]? =none):JO F ⟨d,.assign (.const .nilFunc),ty,p,af,gd⟩ O (.v (Fc gs) i) []:=by
 intro ρ S a w K;refine XC.value (w':=w) (v:= .nilFunc) (by simp[execOp,Act.eval]) (ZC.same ?_);simp only[Slot.ok];exact⟨[.nilFunc],.inr ⟨hg,rfl⟩,rfl⟩
theorem EC{gs:List aAf}{i:Nat}{xs:List aAc}{ts:Array aAb}{ss:List Slot}{res:Slot}{ZL XJ:(Nat->Nat)->List (Nat×XB)}{D:List (Nat×XB)}{K H:List Nat}(r:Nat->Nat)(hr:∀i j,r i=r j->i=j)(hx:dH O.g x=some (.v (Fc gs) i))
  (hc:∃f,gs[i]? =some f/\(∀args w,(callFunc f args).run F.P w= .ok (.enter f args) w)/\∀A,XA F.P f ss (ZL A) res (XJ A)) (ha:E9 O r xs ss) (F6:∀A,E5 O r A (ZL A)) (I4:∀A,l3 O r A (XJ A) D K)
  (hH:∀A,(ZL A).map (fun x=>r x.1)=H) (ZM:Bk O.g (jC O.d H) H K D=true) (U6:Ps O H D=true) (ZW:∀A,lG res (XJ A)=true) (lq:K.all (fun k=>iL k H)=true) (p8:gS d F.N=true):
  JM F ⟨d,.call ⟨.value x,xs.toArray,ts⟩,ty,p,af,gd⟩ O ⟨iV d (res.map r) O.g,D++jC O.d H⟩:=by
 obtain⟨f,ab,ZE,hc⟩:=hc;rintro a w ⟨⟨ρ,z,T⟩,hz,j4⟩;let A:Nat->Nat:=fun i=>B0 (ρ (r i)).v
 have Q:∀i b,(ρ (r i)).v= .pointer (some ⟨b,0,none⟩)->A i=b:=fun i b h=>by show B0 (ρ (r i)).v=b;rw[h];rfl
 have B:=(F6 A).spec z.own Q;have U:∀k,(Un F.S0 ρ O.d k/\¬mV (fun i=>ρ (r i)) (ZL A) k)->k<w.heap.size:=by
  rintro k ⟨h |⟨i,u,C,M⟩,_⟩
  ·exact X0 (z.low k h) z.size
  ·exact(z.fresh i u k C M).2
 have R:Un (fun k=>Un F.S0 ρ O.d k/\¬mV (fun i=>ρ (r i)) (ZL A) k) (fun i=>ρ (r i)) (ZL A)=Un F.S0 ρ O.d:=by
  funext k;refine propext ⟨fun h=>?_,fun h=>?_⟩
  ·rcases h with h |⟨i,u,C,M⟩
   ·exact h.1
   ·obtain⟨⟨L,E⟩,_⟩:=B i u C;exact .inr ⟨r i,L,E,M⟩
  ·by_cases G:mV (fun i=>ρ (r i)) (ZL A) k
   ·exact .inr G
   ·exact .inl ⟨h,G⟩
 have V:Ins (fun k=>Un F.S0 ρ O.d k/\¬mV (fun i=>ρ (r i)) (ZL A) k) (fun i=>ρ (r i)) w (ZL A):=by
  refine⟨fun i u h=>?_,fun i u b h I=>?_,fun i u b h I h'=>h'.2 ⟨i,u,h,I⟩,fun i j u aa b hi hj bi bj=>?_⟩
  ·rw[R];exact(B i u h).2
  ·obtain⟨⟨L,E⟩,_⟩:=B i u h;exact(z.fresh _ _ b E I).2
  ·obtain⟨⟨L,E⟩,_⟩:=B i u hi;obtain⟨⟨fu,h4⟩,_⟩:=B j aa hj;exact hr _ _ (z.inj _ _ _ _ b E h4 bi bj)
 have K:=cK z T (Op.call ⟨.value x,xs.toArray,ts⟩).operands;have X:=ha.spec (ys:=(Op.call ⟨.value x,xs.toArray,ts⟩).operands) (fun x hx=>by simp[Op.operands,Call.operands,hx]) K;have S:=K.slot x (by simp[Op.operands,Call.operands]) _ hx;simp only[Slot.ok] at S;have C:a.eval x= .func (.func f) #[] ([]:List aAd).toArray:=ND ab S;refine XC.enter (Qr C ZE) ?_;rw[cw];refine(hc A _ w _ _ U V (by rw[R];exact X)).mono ?_;rintro e w' ⟨v,ρ',rfl,G⟩;exact⟨v,rfl,St.N2 hr z T hz j4 Q (F6 A) (I4 A) (hH A) ZM U6 (ZW A) lq p8 G⟩
end
end Go.Sw
namespace Go.Sw
open Go Go.RowKit
section
variable {F:YP}{O:AS}{pb:Option Nat}{d:Option Tmp}{ty:aAb}{p:String}{af:Array Edge}{gd:Option (Nat×Bool)}{x y z:aAc}
theorem uO{α:Type}{T U:aAb}{l:List Slot}{i off:Nat}{s0:Slot}(j:Nat)(E:aAb)(e:Wr α)(hx:dH O.g x=some (.ptr i off))(he:aY O.d i=some (.box T l pb))(ho:nP l off=some s0)(O0:s0.sz=1)
  (hS:∀w,(sizeOf U).run F.P w= .ok 1 w) (hf:O.free [(j,.arr E e [])]=true):JM F ⟨none,.store U x (.const (.slice none 0 0)),ty,p,af,gd⟩ O ⟨O.g,(i,.box T (oC l off (.ref j)) pb)::(j,.arr E e [])::O.d⟩:=by
 rintro a w ⟨⟨ρ,hc,hs⟩,hz,j4⟩;obtain⟨ρ',G,h2,h3,h4⟩:=Mr (w:=w) (S:=Un F.S0 ρ O.d) E e j ρ;obtain⟨C,k2,k3⟩:=hc.put rfl hf G h2 h4;have D:∀t s,lk O.g t=some s->s.ok ρ' (Un F.S0 ρ' ([(j,.arr E e [])]++O.d)) w (a.tmps.getD t undef):=fun t s A=>
  Slot.WY s _ (hs t s A) k3 (fun q V=>congrArg LV.v (G q (by
   cases hy:aY [(j,XB.arr E e [])] q with
   |none=>rfl
   |some e=>exact absurd V ((lD hf hy).1 t s A))))
 have M:i≠j:=fun h=>by
  subst h;have:=(lD hf (i:=i) (en:= .arr E e []) (by simp[aY])).2.1;rw[he] at this;cases this
 have B:aY ([(j,.arr E e [])]++O.d) i=some (.box T l pb):=by
  rw[gO];simp[aY,show Nat.beq j i=false from by cases hb:Nat.beq j i with
   |true=>exact absurd (D6 hb).symm M
   |false=>rfl,he]
 have K:=cK (O:=⟨O.g,[(j,.arr E e [])]++O.d⟩) C D (Op.store U x (.const (.slice none 0 0))).operands;obtain⟨b,cs,H,g2,I,g4⟩:=zZ K (x:=x) (by simp[Op.operands]) hx B;obtain⟨L,c,aa,rfl,rfl,g5,g6⟩:=vK ho g4;have N:a.eval (.const (.slice none 0 0))= .slice none 0 0:=by simp[Act.eval]
 have z:=rA (s:= .ref j) rfl h3;rw[<-N] at z;have Q:∀u∈(a.eval (.const (.slice none 0 0))).cells.toList,u.oneCell'=true:=fun u X=>Hp z u X (fun e=>by cases e);have R:=lH (P:=F.P) (w:=w) (U:=U) hS (by have:=nS z;simp only[ed] at this;exact this) Q I rfl (by rw[nS g5];exact O0);obtain⟨m1,m2⟩:=C.upd (en':= .box T (oC l L.length (.ref j)) pb) B (b:=b) (.inl (by rw[H];rfl)) (ee.setRow w b (L++((a.eval (.const (.slice none 0 0))).cells.toList++aa)).toArray) fun hE=>by
  refine⟨⟨b,_,H,setRow_heap w b _ _ T _ I,?_⟩,(C.own i _ B).2⟩;refine fW _ _ (g6 (.ref j) _ ?_) hE (fun _ _=>rfl);refine(vV _ _ z ?_ (fun _ _=>rfl));exact⟨ZY _,fun k _ hn=>⟨rfl,fun h=>hn ((k2 k).1 h)⟩⟩
 exact XC.skip (lI g2 R) ⟨⟨ρ',m1,fun t s A=>Slot.WY s _ (D t s A) m2 (fun _ _=>rfl)⟩,hz,j4⟩
def VC(q:List (Nat×Nat×Slot))(d:List (Nat×XB)):Prop:=∀x∈q,∃T l pb,aY d x.1=some (.box T l pb)/\nP l x.2.1=some x.2.2
theorem IJ{U:aAb}{i off:Nat}{s:Slot}{g:List (Nat×Slot)}{dd:List (Nat×XB)}(q:List (Nat×Nat×Slot))(k:Nat)(hd:VC q dd)(hk:q[k]? =some (i,off,s))
  (hld:∀T l pb,aY dd i=some (.box T l pb)->nP l off=some s->JO F ⟨d,.load U x,ty,p,af,gd⟩ ⟨g,dd⟩ s []):JO F ⟨d,.load U x,ty,p,af,gd⟩ ⟨g,dd⟩ s []:=by
 obtain⟨T,l,pb,h,u⟩:=hd _ (aB7 hk);exact hld T l pb h u
def SQ(x:Nat×Nat×Slot):XB->Prop
 | .box _ l _=>nP l x.2.1=some x.2.2
 |_=>False
def US(x:Nat×Nat×Slot)(nw:List (Nat×XB))(dl:List Nat):Prop:=match aY nw x.1 with
 |some h=>SQ x h
 |none=>iL x.1 dl=false
def VD(x:Nat×Nat×Slot):List l5->Prop
 | []=>True
 |it::r=>US x it.nw it.dl/\VD x r
def VZ(d:List (Nat×XB))(its:List l5):List (Nat×Nat×Slot)->Prop
 | []=>True
 |x::r=>((match aY d x.1 with | some h=>SQ x h | none=>False)/\VD x its)/\VZ d its r
theorem NF{x:Nat×Nat×Slot}{en:XB}(h:SQ x en):∃T l pb,en= .box T l pb/\nP l x.2.1=some x.2.2:=by
 cases en with
 |box T l pb=>exact⟨T,l,pb,rfl,h⟩
 |_=>exact h.elim
theorem IK{x:Nat×Nat×Slot}:∀{its:List l5} {i:Nat},VD x its->i<its.length->US x (its.getD i ⟨.top,[],[],[],[]⟩).nw (its.getD i ⟨.top,[],[],[],[]⟩).dl
 | [],_,_,h=>by simp at h
 |_::_,0,h,_=>h.1
 |_::r,i+1,h,u=>by have:=IK (its:=r) (i:=i) h.2 (by simpa using u);simpa using this
theorem BV{x:Nat×Nat×Slot}{nw:Nat->List (Nat×XB)}{dl:Nat->List Nat}{d:List (Nat×XB)}{L:Nat->Bool}(h0:∃en,aY d x.1=some en/\SQ x en):∀{n:Nat},(∀i,i<n->US x (nw i) (dl i))->∃en,aY (Cg nw dl d n L) x.1=some en/\SQ x en
 | 0,_=>h0
 |n+1,h=>by
  have z:=BV (L:=L) h0 (n:=n) fun i D=>h i (by omega);simp only[Cg];cases L n with
  |false=>exact z
  |true=>
   have u:=h n (by omega);simp only[YX,gO];unfold US at u;cases hx:aY (nw n) x.1 with
   |some en=>rw[hx] at u;exact⟨en,rfl,u⟩
   |none=>
    rw[hx] at u;have:x.1∉dl n:=fun A=>by rw[jF.2 A] at u;cases u
    obtain⟨en,B,C⟩:=z;exact⟨en,by rw[qI,XV this];simpa using B,C⟩
theorem BW{d:List (Nat×XB)}{its:List l5}{n:Nat}(hn:n=its.length):∀{q:List (Nat×Nat×Slot)},VZ d its q->∀L,VC q (Cg (fun i=>(its.getD i ⟨.top,[],[],[],[]⟩).nw) (fun i=>(its.getD i ⟨.top,[],[],[],[]⟩).dl) d n L)
 | [],_,_=>fun _ h=>by cases h
 |x::r,h,L=>fun y u=>by
  rcases B1.1 u with rfl | u
  ·have z:∃en,aY d y.1=some en/\SQ y en:=by
    have:=h.1.1;cases hx:aY d y.1 with
    |some en=>rw[hx] at this;exact⟨en,rfl,this⟩
    |none=>rw[hx] at this;exact this.elim
   subst hn;obtain⟨en,B,C⟩:=BV (L:=L) z fun i A=>IK h.1.2 A;obtain⟨T,l,D,rfl,E⟩:=NF C;exact⟨T,l,D,B,E⟩
  ·exact BW hn h.2 L y u
theorem Te{α:Type}{xs ys:List α}{lo hi:Int}(hs:Sw.sub xs lo hi=some ys):ys.length=hi.toNat - lo.toNat:=by
 obtain⟨h,u,z,rfl⟩:=gW hs;simp only[Z2,I8];omega
theorem NG{α:Type}{xs ys:List α}{lo hi m:Int}{z:α}(hs:Sw.sub xs lo hi=some ys)(hz:Sw.idx ys m=some z):xs[lo.toNat+m.toNat]? =some z:=by
 have u:=Te hs;obtain⟨B,C,D,rfl⟩:=gW hs;obtain⟨E,A,h⟩:=dL hz;rw[List.getElem?_drop,List.getElem?_take] at h;rw[u] at A
 rwa [YC (by omega)] at h
theorem ED{α:Type}{e:Wr α}{xs ys:List α}{lo hi:Int}{T U E:aAb}{i:Nat}(hs:Sw.sub xs lo hi=some ys)(hx:dH O.g x=some (.sub i (lo.toNat*e.n) (hi.toNat - lo.toNat)))(he:aY O.d i=some (.arr T e xs))(hU:∀w,(underlying U).run F.P w= .ok (.slice E) w):
  JO F ⟨d,.call ⟨.builtin .len,#[x],#[U]⟩,ty,p,af,gd⟩ O (.v (Wr.int .i64) (ys.length:Int)) []:=by
 intro ρ S a w K;have A:=Te hs;obtain⟨L,M,C,_⟩:=gW hs;have u:=K.slot x (by simp[Op.operands,Call.operands]) _ hx;simp only[Slot.ok] at u;obtain⟨⟨D,l0,N,G⟩,c,o,Q,R,H⟩:=u;have B:p4 T e xs S w (ρ i).v:=(K.G6 x (by simp[Op.operands,Call.operands]) _ hx i (by simp[Slot.ZR]) _ he).1;have h:∃z,a.eval x= .slice z (hi.toNat - lo.toNat) c:=by
  rw[H,G];cases D with
  |none=>exact⟨_,rfl⟩
  |some q=>exact⟨_,rfl⟩
 obtain⟨z,h⟩:=h;have I:(ys.length:Int)<9223372036854775808:=by
  rcases B with⟨rfl,_⟩|⟨b,V,X,cs,aa,_,_,_,_,_,ae⟩
  ·simp at C;omega
  ·omega
 refine XC.value (w':=w) (v:= .int .i64 ys.length) ?_ (ZC.same (tP (Dl (by omega)) ρ S w));rw[A];simp[execOp,resolve,invoke,builtin,h,Hn hU]
theorem EE{α:Type}{e:Wr α}{xs ys:List α}{lo hi:Int}{T U E:aAb}{k:aAg}{m:Int}{z:α}{i:Nat}(hs:Sw.sub xs lo hi=some ys)(hz:Sw.idx ys m=some z)(hx:dH O.g x=some (.sub i (lo.toNat*e.n) (hi.toNat - lo.toNat)))(he:aY O.d i=some (.arr T e xs))(hy:dH O.g y=some (.v (Wr.int k) m))
  (hU:∀w,(underlying U).run F.P w= .ok (.slice E) w) (hE:∀w,(sizeOf E).run F.P w= .ok e.n w):JO F ⟨d,.indexAddr U x y,ty,p,af,gd⟩ O (.el i (lo.toNat+m.toNat) e.n 0) []:=by
 intro ρ S a w K;have N:=Te hs;obtain⟨Q,R,I,_⟩:=gW hs;obtain⟨L,V,X⟩:=dL hz;have B:=K.slot x (by simp[Op.operands]) _ hx;simp only[Slot.ok] at B;obtain⟨⟨a0,l0,c0,g0⟩,c,o,g1,h,M⟩:=B;have C:p4 T e xs S w (ρ i).v:=(K.G6 x (by simp[Op.operands]) _ hx i (by simp[Slot.ZR]) _ he).1;have D:=(fY K (x:=y) (by simp[Op.operands]) hy).1;rcases C with⟨rfl,_⟩|⟨b,cap,u,cs,aa,A,_⟩
 ·simp at I;omega
 have G:o=lo.toNat*e.n:=by
  rcases h with h | h
  ·exact h
  ·omega
 subst G;have H:a.eval x= .slice (some ⟨b,u.length+lo.toNat*e.n,none⟩) (hi.toNat - lo.toNat) c:=by rw[M,A];rfl
 refine XC.value (w':=w) (v:= .pointer (some ⟨b,u.length+lo.toNat*e.n+m.toNat*e.n,none⟩)) ?_ (ZC.same (by simp only[Slot.ok];exact⟨⟨b,_,_,_,A⟩,by rw[A];simp[Ml,O8,aDu]⟩));have:=Dk (P:=F.P) (w:=w) (b:=b) (off:=u.length+lo.toNat*e.n) (len:=hi.toNat - lo.toNat) (cap:=c) (k:=k) hU hE L (by omega:m<((hi.toNat - lo.toNat:Nat):Int));simp only[execOp,H,D];simp[this]
end
section
variable {F:YP}{ops:Array aAi}{OK:List (Nat×XB)->Prop}{os:List aAi}{O σ2 O':AS}{its:List l5}{d:Option Tmp}{ty:aAb}{p:String}{af:Array Edge}{gd:Option (Nat×Bool)}{o:aAi}
theorem ZA.aLi{gs:List aAf}{fi:Nat}{x:aAc}{xs:List aAc}{ts:Array aAb}{ss:List Slot}{res:Slot}{ZL XJ:(Nat->Nat)->List (Nat×XB)}{D:List (Nat×XB)}{K H:List Nat}(g:GK ops O.g ⟨d,.call ⟨.value x,xs.toArray,ts⟩,ty,p,af,gd⟩ true)(r:Nat->Nat)(hr:∀i j,r i=r j->i=j)
  (hx:dH O.g x=some (.v (Fc gs) fi)) (hc:∃f,gs[fi]? =some f/\(∀args w,(callFunc f args).run F.P w= .ok (.enter f args) w)/\∀A,XA F.P f ss (ZL A) res (XJ A)) (ha:E9 O r xs ss) (F6:∀A,E5 O r A (ZL A)) (I4:∀A,l3 O r A (XJ A) D K)
  (hH:∀A,(ZL A).map (fun x=>r x.1)=H) (hDK:D.all (fun x=> !iL x.1 H || iL x.1 K)=true) (_:Ps O H D=true) (ZW:∀A,lG res (XJ A)=true) (lq:K.all (fun k=>iL k H)=true) (p8:gS d F.N=true)
  (k:ZA F ops OK os ⟨iV d (res.map r) O.g,D++jC O.d H⟩ its O'):
  ZA F ops OK (⟨d,.call ⟨.value x,xs.toArray,ts⟩,ty,p,af,gd⟩::os) O (⟨res.map r,D,D.filter (fun x=> !iL x.1 H),Li O.g ⟨d,.call ⟨.value x,xs.toArray,ts⟩,ty,p,af,gd⟩++H,H⟩::its) O':=by
 refine .mvx (nw:=D) (fr:=D.filter (fun x=> !iL x.1 H)) (dl:=H) (ex:=H) g p8 (fun σ2 G I M=>?_) k;have L:∀x∈D,iL x.1 H=true->iL x.1 K=true:=fun x hx B=>by
  have:=y8.1 hDK x hx;simpa[B] using this
 refine EC r hr ((G.ev (by simp[Op.operands,Call.operands])).trans hx) hc (ha.loc G fun x hx=>by simp[Op.operands,Call.operands,hx]) (fun A=>(F6 A).loc fun l u=>I l (by rw[<-hH A];exact u)) (fun A=>(I4 A).loc fun l u=>I l (jF.1 (y8.1 lq l u))) hH ?_ ?_ ZW lq p8
 ·have C:∀l,(!iL l H || iL l K || !iL l (D.map (·.1)))=true:=by
   intro l;cases h:iL l H with
   |false=>simp
   |true=>
    cases h2:iL l (D.map (·.1)) with
    |false=>simp
    |true=>
     obtain⟨x,hx,rfl⟩:=fx.1 (jF.1 h2);simp[L x hx h]
  unfold Bk;simp only[K0,y8];exact⟨fun y _ l _=>C l,fun y _ l _=>C l⟩
 ·unfold Ps;rw[y8];intro x hx;cases B:iL x.1 H with
  |true=>simp
  |false=>
   have h:=y8.1 M x (aCj.2 ⟨hx,by simp[B]⟩);simp only[K0,y8] at h;have E:∀l:List Nat,(!l.contains x.1)=true->(!iL x.1 l)=true:=by
    intro l u;cases h2:iL x.1 l with
    |false=>rfl
    |true=>have:=jF.1 h2;simp at u;exact absurd this u
   simp only[aCi,K0,y8];exact .inr ⟨fun y z=>⟨(h.2 y z).1,E _ (h.2 y z).2⟩,fun y z=>E _ (h.1 y z)⟩
end
end Go.Sw
namespace Go.Sw
open Go Go.RowKit
def dG(v:aAd):DE Obj where
 ok o _ w u _:=(u.v= .pointer (some ⟨0,0,none⟩)/\w.cell? ⟨0,0,none⟩=some v)/\w.heap[0]? =some o
 mono:=by
  rintro q S C w D u l ⟨⟨h,z⟩,A⟩ _ B;have:=B 0 (.inl (by rw[h];rfl));refine⟨⟨h,?_⟩,by rw[this];exact A⟩;unfold World.cell? at z ⊢;rw[this];exact z
section
variable {F:YP}{O:AS}{pb:Option Nat}{d:Option Tmp}{ty:aAb}{p:String}{af:Array Edge}{gd:Option (Nat×Bool)}{x y z:aAc}
theorem Vm{T T0 E:aAb}{l:List Slot}{i off b:Nat}(hx:dH O.g x=some (.ptr i off))(he:aY O.d i=some (.box T0 l (some b)))(hT:∀w,(underlying T).run F.P w= .ok (.pointer E) w):
  JO F ⟨d,.makeInterface T x,ty,p,af,gd⟩ O (.v (Wr.n7 (.iface T (.pointer (some ⟨b,off,none⟩))) rfl) ()) []:=by
 intro ρ S a w K;have h:=K.slot x (by simp[Op.operands]) _ hx;simp only[Slot.ok] at h;obtain⟨⟨b0,B⟩,u⟩:=h;have z:=(K.G6 x (by simp[Op.operands]) _ hx i (by simp[Slot.ZR]) _ he).1.2 b rfl;rw[z] at u;have A:a.eval x= .pointer (some ⟨b,off,none⟩):=u;exact XC.value (w':=w) (v:= .iface T (.pointer (some ⟨b,off,none⟩))) (by simp[execOp,A,Instr.makeInterface,hT]) (ZC.same (by simp only[Slot.ok];exact Ht.2 rfl))
theorem Ku:∀{l:List Slot} {off:Nat} {s:Slot},nP l off=some s->oC l off s=l
 | [],_,_,h=>by cases h
 |t::r,off,s,h=>by
  simp only[nP] at h;simp only[oC];cases h0:Nat.beq off 0 with
  |true=>rw[h0] at h;cases h;rfl
  |false=>
   rw[h0] at h;simp only[pF] at h ⊢;cases h1:Nat.ble t.sz off with
   |true=>rw[h1] at h;rw[Ku h]
   |false=>rw[h1] at h;cases h
theorem Vn{w:aAa}{b:Nat}{pre c post:List aAd}{u v:aAd}{T:aAb}(hc:c=[u])(h:w.heap[b]? =some (.cells (pre++(c++post)).toArray T (0,0))):
  ee b w (w.setCell ⟨b,pre.length,none⟩ v)/\(w.setCell ⟨b,pre.length,none⟩ v).heap[b]? =some (.cells (pre++([v]++post)).toArray T (0,0)):=by
 subst hc;refine⟨⟨by simp[World.setCell],fun k z=>?_,rfl,rfl,rfl⟩,?_⟩
 ·simp only[World.setCell,Array.getElem?_modify];rw[XV (fun e=>z e.symm)]
 ·simp only[World.setCell,Array.getElem?_modify,r7,h,tw];simp
theorem IL{f:aAf}{ts:Array aAb}{ET PT T:aAb}{i off G b:Nat}{l:List Slot}{v:aAd}{e:Option Int}{gr:Int}{go:Obj}
  (gy:∀t w,Calls F.P f #[.nilIface,t] w fun e w'=>e= .returned (.bool false)/\w'=w)
  (bA7:∀(n:Int) (t:aAk) (gr:aAd) (w:aAa),w.cell? ⟨0,0,none⟩=some v->w.cell? t=some gr->w.frozen? t=false->
   Calls F.P f #[.iface ET (.int .i64 n),.iface PT (.pointer (some t))] w fun ev w'=>ev= .returned (.bool true)/\∃o1 o2 o3 o4,w'=((((w.alloc o1).alloc o2).alloc o3).alloc o4).setCell t (.int .i64 n))
  (ZE:∀args w,(callFunc f args).run F.P w= .ok (.enter f args) w)
  (hx:dH O.g x=some (.v (Wr.err ET) e)) (hy:dH O.g y=some (.v (Wr.n7 (.iface PT (.pointer (some ⟨b,off,none⟩))) rfl) ())) (he:aY O.d i=some (.box T l (some b))) (ho:nP l off=some (.v (Wr.int .i64) gr))
  (hG:aY O.d G=some (.dp (dG v) go [])) (hd:gS d F.N=true):
  JM F ⟨d,.call ⟨.value (.func f),[x,y].toArray,ts⟩,ty,p,af,gd⟩ O ⟨iV d (.v Wr.bool e.isSome) O.g,(i,.box T (oC l off (.v (Wr.int .i64) (e.getD gr))) (some b))::O.d⟩:=by
 rintro a w ⟨⟨ρ,A,S⟩,hz,j4⟩;have K:=cK A S (Op.call ⟨.value (.func f),[x,y].toArray,ts⟩).operands;have L:=K.slot x (by simp[Op.operands,Call.operands]) _ hx;have D:=K.slot y (by simp[Op.operands,Call.operands]) _ hy;simp only[Slot.ok] at L D;have D:=Ht.1 D;have fin:∀(q:Bool) (w':aAa) (C:List Slot),Core F ((i,.box T C (some b))::O.d) ρ w'->Ext (Un F.S0 ρ O.d) (Un F.S0 ρ ((i,.box T C (some b))::O.d)) w w'->
   St F ⟨iV d (.v Wr.bool q) O.g,(i,.box T C (some b))::O.d⟩ (a.put d (.bool q)) w':=by
  intro q w' C E Q;have M:St F ⟨O.g,(i,.box T C (some b))::O.d⟩ a w':=⟨⟨ρ,E,fun t s ht=>Slot.WY s _ (S t s ht) Q (fun _ _=>rfl)⟩,hz,j4⟩;obtain⟨⟨ρ2,H,B⟩,R,z⟩:=M;have:=St.put (O:=⟨O.g,(i,.box T C (some b))::O.d⟩) (s:= .v Wr.bool q) (new:=[]) (v:= .bool q) (dst:=d) H B R z rfl hd (ZC.same (nR _ ρ2 _ w'));cases d with
  |none=>exact this
  |some t=>exact this
 refine XC.enter (uL ZE) ?_;cases e with
 |none=>
  have E:=Bb.1 L;simp only[L4,aD2,E,D];refine(gy _ w).mono ?_;rintro ev w' ⟨rfl,rfl⟩;refine⟨_,rfl,?_⟩;have hl:oC l off (.v (Wr.int .i64) ((none:Option Int).getD gr))=l:=Ku ho;rw[hl];have M:St F ⟨iV d (.v Wr.bool false) O.g,O.d⟩ (a.put d (.bool false)) w':=by
   have:=St.put (s:= .v Wr.bool false) (new:=[]) (v:= .bool false) (dst:=d) A S hz j4 rfl hd (ZC.same (nR _ ρ _ w'));cases d with
   |none=>exact this
   |some t=>exact this
  show St F ⟨iV d (.v Wr.bool false) O.g,(i,.box T l (some b))::O.d⟩ _ _;refine St.congr (O:=⟨iV d (.v Wr.bool false) O.g,O.d⟩) (fun _=>rfl) (fun q=>?_) M;show aY ((i,.box T l (some b))::O.d) q=aY O.d q;rw[cN];split
  ·rename_i h;subst h;exact he.symm
  ·rfl
 |some n=>
  obtain⟨E,Q⟩:=Bc.1 L;simp only[L4,aD2,E,D];obtain⟨⟨b0,cs,H,B,R⟩,z⟩:=A.own i _ he;have z:=z b rfl;rw[z] at H;simp only[Value.pointer.injEq,E4,Addr.mk.injEq,aEi] at H;subst H;obtain⟨I,c,ab,rfl,rfl,V,q2⟩:=vK ho R;simp only[Slot.j9] at V;obtain⟨u,X⟩:∃u,c=[u]:=by
   have:=(Wr.int .i64).len V
   match c,this with
   | [u],_=>exact⟨u,rfl⟩
  have R3:w.cell? ⟨b,I.length,none⟩=some u:=by simp[World.cell?,B,X]
  have aa:w.frozen? ⟨b,I.length,none⟩=false:=by simp[World.frozen?,B]
  have xz:=(A.own G _ hG).1.2;refine(bA7 n ⟨b,I.length,none⟩ u w xz R3 aa).mono ?_;rintro ev w' ⟨rfl,o1,o2,o3,o4,rfl⟩;refine⟨_,rfl,?_⟩;have U:Below w.heap.size w ((((w.alloc o1).alloc o2).alloc o3).alloc o4):=
   ((((Below.refl _ w).alloc (ZY _) o1).alloc (by simp) o2).alloc (by simp;omega) o3).alloc (by simp;omega) o4
  obtain⟨k1,k2⟩:=A.below U;have YI:b<w.heap.size:=by
   rcases R8 b w.heap.size with h | h
   ·exact h
   ·rw[aBv h] at B;cases B
  have qx:=(U.block b YI).trans B;obtain⟨r1,r2⟩:=Vn (v:= .int .i64 n) X qx;obtain⟨m1,m2⟩:=k1.upd (en':= .box T (oC l I.length (.v (Wr.int .i64) n)) (some b)) he (.inl (by rw[z];rfl)) r1 fun hE=>by
   refine⟨⟨b,_,z,r2,?_⟩,fun c A=>by cases A;exact z⟩;have q3:=q2 (.v (Wr.int .i64) n) [.int .i64 n] (by simp only[Slot.j9];exact⟨rfl,Q⟩);exact fW _ _ (fW _ _ q3 k2 (fun _ _=>rfl)) hE (fun _ _=>rfl)
  exact fin true _ _ m1 (k2.trans m2)
end
end Go.Sw
