/- The library over the model: how values lie, what is ours in memory, rules for operations, calls, loops. Conditions: none. -/
import Derived.Test.YteckohdbfkhmdadGreatDoorMATopNaive
import Derived.Laws.Externs
set_option linter.unusedVariables false
set_option linter.unusedSimpArgs false
namespace Go.Sw
open Go Go.RowKit
def ay(P:Program)(gf:FuncId)(cap:List Slot)(items:List (List Slot)):Prop:=
 ∀(S:Nat->Prop) (w:World) (vs:List Value) (ρ:Nat->LV) (l:Nat) (J:Nat->World->Prop) (Jx:World->Prop),
  (∀k,S k->k<w.heap.size)->aW ρ S w cap vs->J 0 w->
  (∀k W,J k W->w.heap.size<=W.heap.size/\∀b,b<w.heap.size->¬S b->W.heap[b]? =w.heap[b]?)->
  (∀k W h,J k W->Below W.heap.size W h->J k h)->(∀W h,Jx W->Below W.heap.size W h->Jx h)->
  (∀k item W0 W us,items[k]? =some item->J k W0->Below W0.heap.size W0 W->aW ρ (fun j=>S j\/(w.heap.size<=j/\j<W0.heap.size)) W item us->∃fn tmps assign body,(Instr.yield l us.toArray).run P W= .ok (.round l fn tmps assign body) W/\
   RoundIn Fence.wide 0 P l fn tmps assign body W fun e h=>(e= .returned (.bool true)/\J (k+1) h)\/(e= .returned (.bool false)/\Jx h))->
  Calls P gf (.func (.yield l) #[] #[]::vs).toArray w fun e u=>(∃v,e= .returned v)/\(J items.length u\/Jx u)
def bz{ι α δ:Type}(step:ι->α->Option (Step α δ)):List ι->α->Option (Ex α δ)
 | [],y=>some (.WT y)
 |i::is,y=>match step i y with
  |none=>none
  |some (.next h)=>bz step is h
  |some (.done z)=>some (.ret z)
def HA:List Tmp->List Slot->List (Nat×Slot)->List (Nat×Slot)
 |t::ts,s::ss,g=>HA ts ss ((t,s)::g)
 |_,_,g=>g
def Po(A:Nat->Nat):List (Nat×WA)->List (Nat×WA)
 | []=>[]
 | (i,h)::d=>(i,match h with | .box T l _=> .box T l (some (A i)) | .arr T e xs=> .arr T e xs | .mp e f m=> .mp e f m | .dp D x u=> .dp D x u)::Po A d
theorem Bg{A:Nat->Nat}:∀{d:List (Nat×WA)} {i:Nat} {en:WA},aX (Po A d) i=some en->∃ZJ,aX d i=some ZJ/\((∃T l pb,ZJ= .box T l pb/\en= .box T l (some (A i)))\/en=ZJ)
 | [],i,en,h=>by simp[Po,aX] at h
 | (j,e)::d,i,en,h=>by
  simp only[Po] at h;rw[cN] at h;rw[cN];split at h
  ·rename_i u;subst u;cases h;rw[XC rfl];refine⟨_,rfl,?_⟩;cases e with
   |box T l pb=>exact .inl ⟨T,l,pb,rfl,rfl⟩
   |arr T e xs=>exact .inr rfl
   |mp e f m=>exact .inr rfl
   |dp D x z=>exact .inr rfl
  ·rename_i u;rw[WV u];exact Bg h
theorem Us{A:Nat->Nat}:∀{d:List (Nat×WA)} {i:Nat} {en:WA},aX d i=some en->∃en',aX (Po A d) i=some en'
 | [],i,en,h=>by simp[aX] at h
 | (j,e)::d,i,en,h=>by
  simp only[Po];rw[cN] at h ⊢;split
  ·exact⟨_,rfl⟩
  ·rename_i u;rw[WV u] at h;exact Us h
inductive B4 (A:Nat->Nat) (d:List (Nat×WA)):List Nat->Prop
 |nil:B4 A d []
 |cons {i:Nat} {T:TypeId} {l:List Slot} {is:List Nat}:aX d i=some (.box T l (some (A i)))->B4 A d is->B4 A d (i::is)
theorem B4.spec{A:Nat->Nat}{d:List (Nat×WA)}{is:List Nat}(h:B4 A d is):∀i∈is,∃T l,aX d i=some (.box T l (some (A i))):=by
 induction h with
 |nil=>intro i h;simp at h
 |cons z _ B=>
  intro i u;rcases q9.1 u with rfl | u
  ·exact⟨_,_,z⟩
  ·exact B i u
def AQ(F:XO)(σ:AS):Exit->Act->World->Prop
 | .normal,a,w=>St F σ a w
 |_,_,_=>False
def RB{α δ:Type}(F:XO)(ds:α->List (Nat×WA))(dx:δ->List (Nat×WA)):Step α δ->Exit->Act->World->Prop
 | .next y,.normal,a,w=>St F ⟨[],ds y⟩ a w
 | .done z,.ret,a,w=>St F ⟨[],dx z⟩ a w
 |_,_,_,_=>False
theorem Core.pin{F:XO}{d:List (Nat×WA)}{ρ:Nat->LV}{w:World}{A:Nat->Nat}(hc:Core F d ρ w)(hA:∀i b,(ρ i).v= .pointer (some ⟨b,0,none⟩)->A i=b):Core F (Po A d) ρ w/\Un F.S0 ρ (Po A d)=Un F.S0 ρ d:=by
 have G:Un F.S0 ρ (Po A d)=Un F.S0 ρ d:=by
  funext k;refine propext ⟨fun h=>?_,fun h=>?_⟩
  ·rcases h with h |⟨i,C,u,B⟩
   ·exact .inl h
   ·obtain⟨z,D,_⟩:=Bg u;exact .inr ⟨i,z,D,B⟩
  ·rcases h with h |⟨i,C,u,B⟩
   ·exact .inl h
   ·obtain⟨H,D⟩:=Us (A:=A) u;exact .inr ⟨i,H,D,B⟩
 refine⟨⟨hc.low,hc.size,hc.frame,hc.os,hc.tape,hc.output,fun i C h=>?_,fun i C b h=>?_,fun i j C H b I K=>?_,fun i C b h=>?_⟩,G⟩
 ·obtain⟨z,u,B⟩:=Bg h;rw[G];have:=hc.own i z u;rcases B with⟨T,l,P,rfl,rfl⟩| rfl
  ·obtain⟨⟨b,L,E,M,N⟩,_⟩:=this;exact⟨⟨b,L,E,M,N⟩,fun c hc=>by cases hc;rw[E,hA i b E]⟩
  ·exact this
 ·obtain⟨z,u,_⟩:=Bg h;exact hc.fresh i z b u
 ·obtain⟨z,u,_⟩:=Bg I;obtain⟨O,B,_⟩:=Bg K;exact hc.inj i j z O b u B
 ·obtain⟨z,u,_⟩:=Bg h;exact hc.apart i z b u
theorem Core.xv{F F':XO}{d:List (Nat×WA)}{ρ:Nat->LV}{w w':World}{l:Nat}(hc:Core F d ρ w)(hl:F.S0 l)(hS:F'.S0=F.S0)(hz:w'.heap.size=w.heap.size)(ho:∀k,k≠l->w'.heap[k]? =w.heap[k]?)
  (r8:F'.w0.heap.size<=w'.heap.size) (l8:∀k,F.S0 k->k<F'.w0.heap.size) (ei:∀k,k<F'.w0.heap.size->¬F'.R k->w'.heap[k]? =F'.w0.heap[k]?) (hos:w'.os=F'.w0.os) (htp:w'.tape=F'.w0.tape) (E7:w'.output=F'.w0.output)
  (hR:∀i en b,aX d i=some en->qT (ρ i) b->F'.w0.heap.size<=b\/F'.R b):Core F' d ρ w'/\Ext (Un F.S0 ρ d) (Un F'.S0 ρ d) w w':=by
 have z:Ext (Un F.S0 ρ d) (Un F'.S0 ρ d) w w':=⟨by rw[hz];exact YZ _,fun k _ A=>⟨ho k fun e=>A (.inl (e ▸ hl)),by rw[hS];exact A⟩⟩
 have B:∀i en b,aX d i=some en->qT (ρ i) b->b≠l:=fun i en b h u e=>hc.apart i en b h u (e ▸ hl);exact⟨⟨by rw[hS];exact l8,r8,ei,hos,htp,E7,fun i en h=>WA.VX (hc.own i en h) z (fun _ _=>rfl) (fun b u=>ho b (B i en b h u)),fun i en b h u=>⟨hR i en b h u,by rw[hz];exact(hc.fresh i en b h u).2⟩,hc.inj,fun i en b h u=>by rw[hS];exact hc.apart i en b h u⟩,z⟩
theorem Yi(ps:List (Tmp×Value))(t:Array Value):(ps.foldl (fun tmps (t,a)=>tmps.setIfInBounds t a) t).size=t.size:=by
 induction ps generalizing t with
 |nil=>rfl
 |cons x ps h=>simp only[V6];rw[h];simp
theorem AY{ρ:Nat->LV}{S:Nat->Prop}{w:World}:∀(ps:List Tmp) (ss:List Slot) (us:List Value) (g:List (Nat×Slot)) (tm:Array Value),(∀t s,lk g t=some s->s.ok ρ S w (tm.getD t undef))->aW ρ S w ss us->ps.length=ss.length->(∀t∈ps,t<tm.size)->
  ∀t s,lk (HA ps ss g) t=some s->s.ok ρ S w (((ps.zip us).foldl (fun tmps (t,a)=>tmps.setIfInBounds t a) tm).getD t undef)
 | [],[],us,g,tm,C,z,_,_=>by simp only[aW] at z;subst z;exact C
 |p::ps,H::ss,us,g,tm,C,z,A,D=>by
  simp only[aW] at z;obtain⟨u,us,rfl,F,G⟩:=z;simp only[HA,List.zip_cons_cons,V6];refine AY ps ss us _ _ (fun t s h=>?_) G (by simpa using A) (fun t h=>by simpa using D t (aj _ h));have E:=D p ao;rw[mG] at h;rw[py,aDi];split at h
  ·rename_i B;subst B;cases h;simp[E];exact F
  ·rename_i B;rw[WV B,<-py];exact C t s h
 | [],_::_,_,_,_,_,_,A,_=>by simp at A
 |_::_,[],_,_,_,_,_,A,_=>by simp at A
theorem Sh{F0 F:XO}{σ:AS}{cs:List Code}{Q:Exit->Act->World->Prop}{gt:Tmp}{ps:Array Tmp}{assign body:Code}{α ι δ:Type}{gf:FuncId}{cap:List Slot}{step:ι->α->Option (Step α δ)}{its:List ι}{x0:α}{o:Ex α δ}(enc:ι->List Slot)
  {g:List (Nat×Slot)} {ds0:List (Nat×WA)} (ds:(Nat->Nat)->α->List (Nat×WA)) (dx:(Nat->Nat)->δ->List (Nat×WA)) (σ1:(Nat->Nat)->ι->α->AS) {L:List Nat}
  (hF:X4 F0 F) (hrd:F.rd=none) (hm:bz step its x0=some o) (h0:Sub F σ ⟨g,ds0⟩) (ig:∀A,Po A ds0=ds A x0) (hg:lk g gt=some (.j2 gf cap)) (hit:ay F.P gf cap (its.map enc))
  (YE:∀args w,(callFunc gf args).run F.P w= .ok (.enter gf args) w) (hps:∀it,(enc it).length=ps.size) (hpN:ps.toList.all (fun t=>Nat.blt t F.N)=true) (hel:∀it,eC (enc it)=[])
  (hL:(g.flatMap fun q=>q.2.YS)=L) (ey:∀A y,B4 A (ds A y) L) (hbz:∀A z,B4 A (dx A z) L)
  (zl:∀A S w R l it y,W ⟨F.P,F.N,S,w,R,some l,[]⟩ [assign] ⟨HA ps.toList (enc it) g,ds A y⟩ (AQ ⟨F.P,F.N,S,w,R,some l,[]⟩ (σ1 A it y)))
  (aRp:∀A S w R l it y r,step it y=some r->W ⟨F.P,F.N,S,w,R,some l,[]⟩ [body] (σ1 A it y) (RB ⟨F.P,F.N,S,w,R,some l,[]⟩ (ds A) (dx A) r))
  (hk:∀A y,o= .WT y->∀S w R df,X4 F0 ⟨F.P,F.N,S,w,R,none,df⟩->W ⟨F.P,F.N,S,w,R,none,df⟩ cs ⟨g,ds A y⟩ Q)
  (hx:∀A z,o= .ret z->∀S w R df,X4 F0 ⟨F.P,F.N,S,w,R,none,df⟩->XQ ⟨F.P,F.N,S,w,R,none,df⟩ ⟨g,dx A z⟩ Q .ret):
  W F (.rangeFunc (.tmp gt) ps assign body::cs) σ Q:=by
 intro a w YN;obtain⟨⟨ρ0,G,kg⟩,hz,ZG⟩:=h0 a w YN;have oy:F.fe=Fence.wide:=by show ({ Fence.wide with round:=F.rd }:Fence)=_;rw[hrd];rfl
 let A:Nat->Nat:=fun i=>q8 (ρ0 i).v
 obtain⟨G,bC⟩:=G.pin (A:=A) (fun i b h=>by show q8 (ρ0 i).v=b;rw[h];rfl);replace kg:∀t s,lk g t=some s->s.ok ρ0 (Un F.S0 ρ0 (ds A x0)) w (a.tmps.getD t undef):=by intro t s M;rw[<-ig,bC];exact kg t s M
 rw[ig] at G;clear bC;have a7:=kg gt _ hg;simp only[Slot.ok] at a7;obtain⟨vs,WO,ZY⟩:=a7;obtain⟨D,hD⟩:∃D,D=w.heap.size:=⟨_,rfl⟩
 refine wpIn_rangeFunc fun fn _=>?_;obtain⟨O,U⟩:∃O:LoopState->Option Code->Loop,O=fun st pe=>{ state:=st,pending:=pe,fn,tmps:=a.tmps,params:=ps,assign,body,defers:=D }:=⟨_,rfl⟩
 obtain⟨W1,af⟩:∃W1,(w.alloc (.deferred (some []))).alloc (.loop (O .ready none))=W1:=⟨_,rfl⟩
 have L0:Below w.heap.size w W1:=by rw[<-af];exact((Below.refl _ w).alloc (YZ _) _).alloc (by simp) _
 have sx:W1.heap.size=D+2:=by rw[<-af,hD];simp
 have a8:W1.heap[D+1]? =some (.loop (O .ready none)):=by
  rw[<-af,hD];have:=World.alloc_heap_new (w.alloc (.deferred (some []))) (.loop (O .ready none));rwa [World.size_alloc] at this
 have bF:W1.heap[D]? =some (.deferred (some [])):=by
  rw[<-af,hD];exact(Below.heap_alloc _ _ _ (by simp)).trans (World.alloc_heap_new w _)
 let S1:Nat->Prop:=fun k=>F.S0 k\/k=D\/k=D+1
 let V:Nat->Prop:=mR ρ0 (ds A x0)
 let FL:XO:=⟨F.P,F.N,S1,W1,V,none,[]⟩
 let FX:XO:=⟨F.P,F.N,S1,W1,fun k=>V k\/k=D+1,none,[]⟩
 have aa:∀k,S1 k->k<W1.heap.size:=by
  rintro k (h | rfl | rfl)
  ·have:=G.low k h;have:=G.size;omega
  ·omega
  ·omega
 have va:Ext (Un F.S0 ρ0 (ds A x0)) (Un S1 ρ0 (ds A x0)) w W1:=⟨L0.size,fun k hk I=>⟨L0.block k hk,by
  rintro ((h | rfl | rfl) | h)
  ·exact I (.inl h)
  ·omega
  ·omega
  ·exact I (.inr h)⟩⟩
 have a9:Core FL (ds A x0) ρ0 W1:=by
  refine⟨aa,YZ _,fun _ _ _=>rfl,rfl,rfl,rfl,fun i B h=>WA.VX (G.own i B h) va (fun _ _=>rfl) (fun b H=>L0.block b (G.fresh i B b h H).2),fun i B b h H=>⟨.inr ⟨i,B,h,H⟩,T4 (G.fresh i B b h H).2 L0.size⟩,G.inj,fun i B b h H=>?_⟩;rintro (h' | rfl | rfl)
  ·exact G.apart i B b h H h'
  ·have:=(G.fresh i B _ h H).2;omega
  ·have:=(G.fresh i B _ h H).2;omega
 have ba:∀{d:List (Nat×WA)} {ρ:Nat->LV} {W:World},Core FL d ρ W->W.heap[D+1]? =some (.loop (O .ready none))/\W.heap[D]? =some (.deferred (some [])):=by
  intro d ρ W u;have bb:∀k,k=D\/k=D+1->¬V k:=by
   rintro k hk ⟨i,B,E,C⟩;have:=(G.fresh i B k E C).2;omega
  exact⟨(u.frame (D+1) (by show D+1<W1.heap.size;omega) (bb _ (.inr rfl))).trans a8,(u.frame D (by show D<W1.heap.size;omega) (bb _ (.inl rfl))).trans bF⟩
 have I4:∀{d:List (Nat×WA)} {ρ:Nat->LV} {W:World} {FF:XO},Core FF d ρ W->B4 A d L->∀t s,lk g t=some s->mQ ρ0 ρ s.YS:=by
  intro d ρ W FF u H t s M i hi;have bd:i∈L:=by rw[<-hL];exact aD7.2 ⟨_,Mj M,hi⟩
  obtain⟨T,l,E⟩:=H.spec i bd;obtain⟨T',l',C⟩:=(ey A x0).spec i bd;rw[(u.own i _ E).2 _ rfl,(G.own i _ C).2 _ rfl]
 have be:∀{d:List (Nat×WA)} {ρ:Nat->LV} {W:World},Core FL d ρ W->Ext (Un S1 ρ0 (ds A x0)) (Un S1 ρ d) W1 W:=by
  intro d ρ W u;refine⟨u.size,fun k hk I=>⟨u.frame k hk (fun h=>I (.inr h)),?_⟩⟩;rintro (h |⟨i,B,E,C⟩)
  ·exact I (.inl h)
  ·rcases (u.fresh i B k E C).1 with h | h
   ·have:W1.heap.size<=k:=h;omega
   ·exact I (.inr h)
 have bG:∀{d:List (Nat×WA)} {ρ:Nat->LV} {W:World},Core FX d ρ W->Ext (Un S1 ρ0 (ds A x0)) (Un S1 ρ d) W1 W:=by
  intro d ρ W u;have U2:∀k,¬Un S1 ρ0 (ds A x0) k->¬(V k\/k=D+1):=by
   rintro k I (h | rfl)
   ·exact I (.inr h)
   ·exact I (.inl (.inr (.inr rfl)))
  refine⟨u.size,fun k hk I=>⟨u.frame k hk (U2 k I),?_⟩⟩;rintro (h |⟨i,B,E,C⟩)
  ·exact I (.inl h)
  ·rcases (u.fresh i B k E C).1 with h | h
   ·have:W1.heap.size<=k:=h;omega
   ·exact U2 k I h
 have bf:∀{d:List (Nat×WA)} {ρ:Nat->LV} {W W':World} {FF:XO},(FF=FL\/FF=FX)->Core FF d ρ W->W'.heap.size=W.heap.size->(∀k,k≠D+1->W'.heap[k]? =W.heap[k]?)->W'.os=W.os->W'.tape=W.tape->W'.output=W.output->W.heap[D]? =some (.deferred (some []))->
   X4 F0 ⟨F.P,F.N,S1,W',mR ρ d,none,{ target:= .collected D,args:= #[] }::F.df⟩/\Core ⟨F.P,F.N,S1,W',mR ρ d,none,{ target:= .collected D,args:= #[] }::F.df⟩ d ρ W'/\Ext (Un S1 ρ d) (Un S1 ρ d) W W':=by
  intro d ρ W W' FF hFF u hzz ee hos htp E7 hKD;have ab:FF.S0=S1:=by rcases hFF with rfl | rfl<;>rfl
  have ac:FF.w0=W1:=by rcases hFF with rfl | rfl<;>rfl
  have bg:∀k,FF.R k->V k\/k=D+1:=by rcases hFF with rfl | rfl;exact fun k h=> .inl h;exact fun k h=>h
  have dc:=u.size;rw[ac] at dc;have ei:∀k,k<W1.heap.size->¬V k->k≠D+1->W.heap[k]? =W1.heap[k]? :=fun k E C K=>by
   have:=u.frame k (by rw[ac];exact E) (fun h=>(bg k h).elim C K);rwa [ac] at this
  have tx:∀k,F.S0 k\/k=D\/k=D+1->¬mR ρ d k:=by
   rintro k hk ⟨i,B,E,C⟩;have:=u.apart i B k E C;rw[ab] at this;exact this hk
  have bh:∀k,mR ρ d k->k<W1.heap.size->V k:=by
   rintro k ⟨i,B,E,C⟩ hk;rcases (u.fresh i B k E C).1 with h | h
   ·rw[ac] at h;omega
   ·rcases bg k h with h | rfl
    ·exact h
    ·exact absurd ⟨i,B,E,C⟩ (tx _ (.inr (.inr rfl)))
  have bi:∀k,V k->F0.w0.heap.size<=k\/F0.R k:=by
   rintro k ⟨i,B,E,C⟩;rcases (G.fresh i B k E C).1 with h | h
   ·exact .inl (fc hF.size h)
   ·exact hF.fresh k h
  have am:W'.os=F.w0.os/\W'.tape=F.w0.tape/\W'.output=F.w0.output:=by
   have E:=u.os;have C:=u.tape;have K:=u.output;rw[ac] at E C K;exact⟨((hos.trans E).trans L0.os).trans G.os,((htp.trans C).trans L0.tape).trans G.tape,((E7.trans K).trans L0.output).trans G.output⟩
  have an:=u.xv (F':=⟨F.P,F.N,S1,W',mR ρ d,none,{ target:= .collected D,args:= #[] }::F.df⟩) (l:=D+1) (by rw[ab];exact .inr (.inr rfl)) ab.symm hzz ee (YZ _) (fun k h=>by rw[ab] at h;show k<W'.heap.size;have:=aa k h;omega)
   (fun _ _ _=>rfl) rfl rfl rfl (fun i B b h H=> .inr ⟨i,B,h,H⟩)
  rw[ab] at an;refine⟨⟨hF.P,fun k h=> .inl (hF.S k h),by show F0.w0.heap.size<=W'.heap.size;have:=hF.size;have:=G.size;omega,hF.low,fun k hk hr=>?_,am.1.trans hF.os,am.2.1.trans hF.tape,am.2.2.trans hF.output,fun k hk=>?_,fun x hx=>?_,?_⟩,an.1,an.2⟩
  ·have Y9:=hF.size;have Y8:=G.size;obtain⟨E,C⟩:=hF.frame k hk hr;have yy:¬V k:=fun h=>(bi k h).elim (fun h=>by omega) hr;refine⟨?_,fun h=>yy (bh k h (by omega))⟩;show W'.heap[k]? =_;rw[ee k (by omega),ei k (by omega) yy (by omega),L0.block k (by omega),G.frame k (by omega) C,E]
  ·by_cases XI:k<W1.heap.size
   ·exact bi k (bh k hk XI)
   ·have Y9:=hF.size;have Y8:=G.size;exact .inl (by omega)
  ·rcases q9.1 hx with rfl | hx
   ·have Y9:=hF.size;have Y8:=G.size;exact⟨D,rfl,.inr (.inl rfl),tx D (.inr (.inl rfl)),by omega,by show W'.heap[D]? =_;rw[ee D (by omega)];exact hKD⟩
   ·obtain⟨r,E,C,K,h4,h5⟩:=hF.df x hx;have XI:=G.low r C;have Y8:=G.size;refine⟨r,E,.inl C,tx r (.inl C),h4,?_⟩;show W'.heap[r]? =_;have yy:¬V r:=fun⟨i,B,h6,h7⟩=>G.apart i B r h6 h7 C;rw[ee r (by omega),ei r (by omega) yy (by omega),L0.block r (by omega),G.frame r XI K,h5]
  ·refine List.pairwise_cons.2 ⟨fun x hx e=>?_,hF.nd⟩;obtain⟨r,E,C,_⟩:=hF.df x hx;rw[E] at e;have e':D=r:=by simpa using e
   have:=G.low r C;have:=G.size;omega
 let J:Nat->World->Prop:=fun k W=>∃y ρ,bz step (its.drop k) y=some o/\Core FL (ds A y) ρ W
 let Jx:World->Prop:=fun W=>∃z ρ,o= .ret z/\Core FX (dx A z) ρ W/\W.heap[D+1]? =some (.loop (O .done (some .ret)))/\W.heap[D]? =some (.deferred (some []))
 refine⟨D+1,[{ target:= .collected D,args:= #[] }],W1,{ target:= .fn (.func gf) vs.toArray,args:= #[.func (.yield (D+1)) #[] #[]] },W1,gf,(.func (.yield (D+1)) #[] #[]::vs).toArray,W1,?_,?_,fun _ _=>by rw[oy];trivial,?_,fun h=>(by rw[oy] at h;cases h),?_⟩
 ·rw[<-af,U,hD];show (Instr.enterLoop _ _ _ _ _ F.rd).run _ _=_;rw[hrd];exact run_enterLoop_outer _ _ _ _ _
 ·have:a.eval (.tmp gt)= .func (.func gf) #[] vs.toArray:=WO;simp only[resolve,this];simp[go_sem]
 ·simp[invoke,go_sem,YE]
 rw[oy];refine CallsIn.mono (callsIn_wide.2 (hit (Un S1 ρ0 (ds A x0)) W1 vs ρ0 (D+1) J Jx ?_ (nE cap vs ZY va (fun _ _=>rfl)) ⟨x0,ρ0,by simpa using hm,a9⟩ ?_ ?_ ?_ ?_)) ?_
 ·rintro k (h |⟨i,B,E,C⟩)
  ·exact aa k h
  ·exact(a9.fresh i B k E C).2
 ·rintro k W ⟨y,ρ,_,u⟩;exact⟨u.size,fun b H I=>u.frame b H (fun h=>I (.inr h))⟩
 ·rintro k W W' ⟨y,ρ,E,u⟩ V2;exact⟨y,ρ,E,(u.below V2).1⟩
 ·rintro W W' ⟨z,ρ,ad,u,L8,ox⟩ V2;exact⟨z,ρ,ad,(u.below V2).1,(V2.block _ (aBn.1 L8).1).trans L8,(V2.block _ (aBn.1 ox).1).trans ox⟩
 ·
  rintro k item W0 W us Z1 ⟨y,ρ,ow,bD⟩ V2 bE;have u:=(bD.below V2).1
  have bH:Ext (fun j=>Un S1 ρ0 (ds A x0) j\/(W1.heap.size<=j/\j<W0.heap.size)) (Un S1 ρ (ds A y)) W W:=⟨YZ _,fun k _ I=>⟨rfl,by
   rintro (h |⟨i,B,E,C⟩)
   ·exact I (.inl (.inl h))
   ·obtain⟨K,h4⟩:=bD.fresh i B k E C;rcases K with K | K
    ·exact I (.inr ⟨K,h4⟩)
    ·exact I (.inl (.inr K))⟩⟩
  obtain⟨it,b8,rfl⟩:∃it,its[k]? =some it/\enc it=item:=by
   rw[ly] at Z1;cases hq:its[k]? with
   |none=>rw[hq] at Z1;cases Z1
   |some it=>rw[hq] at Z1;exact⟨it,rfl,by simpa using Z1⟩
  have Z2:its.drop k=it::its.drop (k+1):=by
   obtain⟨XI,he⟩:=aCb.1 b8;rw[aCy XI,he]
  rw[Z2] at ow;obtain⟨hl,a0⟩:=ba u;have bI:=Hg bE;have hy:=run_yield (P:=F.P) (args:=us.toArray) hl (by rw[U];simp[bI,hps]);rw[U] at hy;refine⟨fn,_,assign,body,hy,roundIn_of_wpIn trivial ?_⟩;let F2:XO:=⟨F.P,F.N,S1,W,mR ρ (ds A y),some (D+1),[]⟩
  have bJ:=u.size;have ch:W1.heap.size<=W.heap.size:=bJ;have YH:Core F2 (ds A y) ρ W:=⟨fun k h=>by have:=aa k h;show k<W.heap.size;omega,YZ _,fun _ _ _=>rfl,rfl,rfl,rfl,u.own,fun i B b h H=>⟨.inr ⟨i,B,h,H⟩,(u.fresh i B b h H).2⟩,u.inj,u.apart⟩
  have YL:mQ ρ0 ρ (eC (enc it)):=fun i hi=>by rw[hel it] at hi;simp at hi
  have tr:St F2 ⟨HA ps.toList (enc it) g,ds A y⟩ { tmps:=((ps.zip us.toArray).foldl (fun tmps (t,a)=>tmps.setIfInBounds t a) a.tmps),defers:=[] } W:=by
   refine⟨⟨ρ,YH,fun t s M=>?_⟩,?_,rfl⟩
   ·have bK:(ps.zip us.toArray).foldl (fun tmps (t,a)=>tmps.setIfInBounds t a) a.tmps=(ps.toList.zip us).foldl (fun tmps (t,a)=>tmps.setIfInBounds t a) a.tmps:=by
     rw[<-aEj];simp
    rw[bK];refine AY ps.toList (enc it) us g a.tmps (fun t s M=>?_) (nE _ us bE bH YL) (by simpa using (hps it).symm) (fun t M=>?_) t s M
    ·exact Slot.VX s _ (Slot.VX s _ (kg t s M) va (fun _ _=>rfl)) (be u) (fun i hi=>I4 u (ey A y) t s M i hi)
    ·rw[hz];have:=o6.1 hpN t M;exact B3 this
   ·show ((ps.zip us.toArray).foldl (fun tmps (t,a)=>tmps.setIfInBounds t a) a.tmps).size=F.N;rw[<-aEj];rw[Yi];exact hz
  have bL:assign.wpIn F2.fe 0 F.P (Exit.then (run F2.fe F.P (AQ F2 (σ1 A it y)) []) (AQ F2 (σ1 A it y))) _ W:=zl A S1 W (mR ρ (ds A y)) (D+1) it y _ _ tr;refine wpIn_mono (show assign.wpIn (Fence.wide.inRound (D+1)) 0 F.P _ _ W from bL) ?_;have fin:∀{e:Exit} {a1:Act} {X:World},St F2 (σ1 A it y) a1 X->∃w2,(Instr.beginRound (D+1)).run F.P X= .ok () w2/\body.wpIn (Fence.wide.inRound (D+1)) 0 F.P (roundPost F.P (D+1) fun e W'=>(e= .returned (.bool true)/\J (k+1) W')\/(e= .returned (.bool false)/\Jx W')) a1 w2:=by
   intro _ a1 X kf;obtain⟨⟨ρ1,j0,Y9⟩,b9,ca⟩:=kf;have bj:∀k,S1 k->¬mR ρ (ds A y) k:=by rintro k hk ⟨i,B,E,C⟩;exact u.apart i B k E C hk
   have U4:X.heap[D+1]? =some (.loop (O .ready none)):=(j0.frame (D+1) (by show D+1<W.heap.size;have:W1.heap.size<=W.heap.size:=u.size;omega) (bj _ (.inr (.inr rfl)))).trans hl;have b1:X.heap[D]? =some (.deferred (some [])):=(j0.frame D (by show D<W.heap.size;have:W1.heap.size<=W.heap.size:=u.size;omega) (bj _ (.inr (.inl rfl)))).trans a0;have b2:=(aBn.1 U4).1;have bk:=run_beginRound (P:=F.P) U4 (by rw[U]);obtain⟨w2,ah⟩:∃w2,X.putObj (D+1) (.loop { O .ready none with state:= .busy })=w2:=⟨_,rfl⟩
   rw[ah] at bk;have G0:w2.heap.size=X.heap.size:=by rw[<-ah];simp
   have ap:∀k,k≠D+1->w2.heap[k]? =X.heap[k]? :=fun k h=>by rw[<-ah];exact World.putObj_heap_other h
   have L8:w2.heap[D+1]? =some (.loop { O .ready none with state:= .busy }):=by rw[<-ah];exact World.putObj_heap_same b2
   let F3:XO:=⟨F.P,F.N,S1,w2,mR ρ1 (σ1 A it y).d,some (D+1),[]⟩
   have ci:W.heap.size<=X.heap.size:=j0.size;have cj:W1.heap.size<=W.heap.size:=u.size;obtain⟨m8,cb⟩:=j0.xv (F':=F3) (l:=D+1) (.inr (.inr rfl)) rfl G0 ap (YZ _) (fun k h=>by have:=aa k h;show k<w2.heap.size;omega) (fun _ _ _=>rfl) rfl rfl rfl (fun i B b h H=> .inr ⟨i,B,h,H⟩);refine⟨w2,bk,?_⟩;have bl:∀{d:List (Nat×WA)} {ρ3:Nat->LV} {w3 w4:World} {o4:Obj},Core F3 d ρ3 w3->w4=w3.putObj (D+1) o4->(o4= .loop (O .ready none)->Core FL d ρ3 w4)/\Core FX d ρ3 w4/\w3.heap[D+1]? =some (.loop { O .ready none with state:= .busy })/\w4.heap[D+1]? =some o4/\w4.heap[D]? =some (.deferred (some [])):=by
    intro d ρ3 w3 w4 o4 qx hw4;have bm:∀k,S1 k->¬mR ρ1 (σ1 A it y).d k:=by rintro k hk ⟨i,B,E,C⟩;exact j0.apart i B k E C hk
    have ck:w2.heap.size<=w3.heap.size:=qx.size;have bn:w3.heap[D+1]? =some (.loop { O .ready none with state:= .busy }):=(qx.frame (D+1) (by show D+1<w2.heap.size;omega) (bm _ (.inr (.inr rfl)))).trans L8;have b3:w3.heap[D]? =some (.deferred (some [])):=(qx.frame D (by show D<w2.heap.size;omega) (bm _ (.inr (.inl rfl)))).trans ((ap D (by omega)).trans b1);have su:w4.heap.size=w3.heap.size:=by rw[hw4];simp
    have yv:∀k,k≠D+1->w4.heap[k]? =w3.heap[k]? :=fun k h=>by rw[hw4];exact World.putObj_heap_other h
    have bs:w4.heap[D+1]? =some o4:=by rw[hw4];exact World.putObj_heap_same (aBn.1 bn).1
    have bt:∀k,k<W1.heap.size->mR ρ1 (σ1 A it y).d k->V k:=by
     rintro k hk ⟨i,B,E,C⟩;rcases (j0.fresh i B k E C).1 with h |⟨i',cc,K,h4⟩
     ·have:W.heap.size<=k:=h;omega
     ·rcases (u.fresh i' cc k K h4).1 with h | h
      ·have:W1.heap.size<=k:=h;omega
      ·exact h
    have bu:∀k,k<W1.heap.size->¬V k->k≠D+1->w4.heap[k]? =W1.heap[k]? :=by
     intro k hk qq ZI;rw[yv k ZI,qx.frame k (by show k<w2.heap.size;omega) (fun h=>qq (bt k hk h))];show w2.heap[k]? =_;rw[ap k ZI,j0.frame k (by show k<W.heap.size;omega) (fun h=>?_)]
     ·exact u.frame k hk qq
     ·obtain⟨i,B,E,C⟩:=h;rcases (u.fresh i B k E C).1 with h | h
      ·have:W1.heap.size<=k:=h;omega
      ·exact qq h
    have aq:w4.os=w3.os/\w4.tape=w3.tape/\w4.output=w3.output:=by rw[hw4];exact⟨rfl,rfl,rfl⟩
    have au:w2.os=X.os/\w2.tape=X.tape/\w2.output=X.output:=by rw[<-ah];exact⟨rfl,rfl,rfl⟩
    have bv:w4.os=W1.os:=aq.1.trans (qx.os.trans (au.1.trans (j0.os.trans u.os)));have bw:w4.tape=W1.tape:=aq.2.1.trans (qx.tape.trans (au.2.1.trans (j0.tape.trans u.tape)));have bx:w4.output=W1.output:=aq.2.2.trans (qx.output.trans (au.2.2.trans (j0.output.trans u.output)));have bA:∀i B b,aX d i=some B->qT (ρ3 i) b->W1.heap.size<=b\/V b:=by
     intro i B b h H;by_cases XI:b<W1.heap.size
     ·rcases (qx.fresh i B b h H).1 with h' | h'
      ·have:w2.heap.size<=b:=h';omega
      ·exact .inr (bt b XI h')
     ·exact .inl (by omega)
    have l8:∀k,S1 k->k<W1.heap.size:=aa;refine⟨fun b7=>?_,?_,bn,bs,by rw[yv D (by omega)];exact b3⟩
    ·exact(qx.xv (F':=FL) (l:=D+1) (.inr (.inr rfl)) rfl su yv (by show W1.heap.size<=w4.heap.size;omega) l8 (fun k hk qq=>by
      by_cases bB:k=D+1
      ·subst bB;exact(bs.trans (by rw[b7])).trans a8.symm
      ·exact bu k hk qq bB) bv bw bx bA).1
    ·exact(qx.xv (F':=FX) (l:=D+1) (.inr (.inr rfl)) rfl su yv (by show W1.heap.size<=w4.heap.size;omega) l8 (fun k hk qq=>bu k hk (fun h=>qq (.inl h)) (fun h=>qq (.inr h))) bv bw bx (fun i B b h H=>(bA i B b h H).imp (fun h=>h) .inl)).1
   have b4:St F3 (σ1 A it y) a1 w2:=⟨⟨ρ1,m8,fun t s M=>Slot.VX s _ (Y9 t s M) cb (fun _ _=>rfl)⟩,b9,ca⟩
   cases hsr:step it y with
   |none=>simp only[bz,hsr] at ow;cases ow
   |some r=>
    have b5:body.wpIn F3.fe 0 F.P (Exit.then (run F3.fe F.P (RB F3 (ds A) (dx A) r) []) (RB F3 (ds A) (dx A) r)) a1 w2:=aRp A S1 w2 _ (D+1) it y r hsr _ _ b4;refine wpIn_mono (show body.wpIn (Fence.wide.inRound (D+1)) 0 F.P _ a1 w2 from b5) ?_;intro e a3 w3 hq;simp only[bz,hsr] at ow;cases r with
    |next y'=>
     cases e<;>simp only[RB,Exit.then,run] at hq;obtain⟨⟨ρ3,a2,_⟩,_⟩:=hq;obtain⟨E,C,K,h4,h5⟩:=bl (o4:= .loop (O .ready none)) a2 rfl;have I2:=run_endRound (P:=F.P) none K;refine⟨_,_,I2,.inl ⟨rfl,y',ρ3,?_,?_⟩⟩
     ·exact ow
     ·rw[U] at E ⊢;exact E rfl
    |done z=>
     have ad:o= .ret z:=by simpa using ow.symm
     cases e<;>simp only[RB,Exit.then,run] at hq;obtain⟨⟨ρ3,a2,_⟩,_⟩:=hq;obtain⟨_,C,K,h4,h5⟩:=bl (o4:= .loop (O .done (some .ret))) a2 rfl;have I2:=run_endRound (P:=F.P) (some .ret) K;refine⟨_,_,I2,.inr ⟨rfl,z,ρ3,ad,?_,?_,?_⟩⟩
     ·rw[U] at C ⊢;exact C
     ·rw[U] at h4 ⊢;exact h4
     ·rw[U] at h5 ⊢;exact h5
  intro e a1 X hq;cases e<;>simp only[AQ,Exit.then,run] at hq ⊢<;>first | exact fin (e:= .normal) hq | exact hq
 ·
  rintro e W2 ⟨⟨v,rfl⟩,⟨y,ρ,E,u⟩|⟨z,ρ,ad,u,L8,cf⟩⟩
  ·obtain⟨hl,a0⟩:=ba u;have b6:o= .WT y:=by
    have C:its.drop (List.map enc its).length=[]:=by simp
    rw[C] at E;simpa[bz] using E.symm
   refine⟨none,_,(by have:=run_endLoop (P:=F.P) hl (by rw[U];simp);rw[U] at this;exact this),?_⟩;obtain⟨W3,pd⟩:∃W3,W2.putObj (D+1) (.loop { O .ready none with state:= .exhausted })=W3:=⟨_,rfl⟩
   have M8:∀k,k≠D+1->W3.heap[k]? =W2.heap[k]? :=fun k h=>by rw[<-pd];exact World.putObj_heap_other h
   obtain⟨a4,a5,a6⟩:=bf (W':=W3) (.inl rfl) u (by rw[<-pd];simp) M8 (by rw[<-pd];rfl) (by rw[<-pd];rfl) (by rw[<-pd];rfl) a0;have ko:=hk A y b6 S1 W3 (mR ρ (ds A y)) _ a4 { a with defers:=[{ target:= .collected D,args:= #[] }]++a.defers } W3 ⟨⟨ρ,a5,fun t s M=>?_⟩,hz,by show _++a.defers=_;rw[ZG];rfl⟩
   ·have av:W2.putObj (D+1) (.loop { state:= .exhausted,pending:=none,fn,tmps:=a.tmps,params:=ps,assign,body,defers:=D })=W3:=by rw[<-pd,U]
    rw[av];simp only[Exit.then];exact ko
   ·exact Slot.VX s _ (Slot.VX s _ (Slot.VX s _ (kg t s M) va (fun _ _=>rfl)) (be u) (fun i hi=>I4 u (ey A y) t s M i hi)) a6 (fun _ _=>rfl)
  ·refine⟨some .ret,_,(by have:=run_endLoop (P:=F.P) L8 (by rw[U];simp);rw[U] at this;exact this),?_⟩;obtain⟨W3,pd⟩:∃W3,W2.putObj (D+1) (.loop { O .done (some .ret) with state:= .exhausted })=W3:=⟨_,rfl⟩
   have M8:∀k,k≠D+1->W3.heap[k]? =W2.heap[k]? :=fun k h=>by rw[<-pd];exact World.putObj_heap_other h
   obtain⟨a4,a5,a6⟩:=bf (W':=W3) (.inr rfl) u (by rw[<-pd];simp) M8 (by rw[<-pd];rfl) (by rw[<-pd];rfl) (by rw[<-pd];rfl) cf;have ko:=hx A z ad S1 W3 (mR ρ (dx A z)) _ a4 { a with defers:=[{ target:= .collected D,args:= #[] }]++a.defers } W3 ⟨⟨ρ,a5,fun t s M=>?_⟩,hz,by show _++a.defers=_;rw[ZG];rfl⟩
   ·have av:W2.putObj (D+1) (.loop { state:= .exhausted,pending:=some .ret,fn,tmps:=a.tmps,params:=ps,assign,body,defers:=D })=W3:=by rw[<-pd,U]
    show (Code.ret).wpIn _ _ _ _ _ _;rw[av];exact wpIn_ret ko
   ·exact Slot.VX s _ (Slot.VX s _ (Slot.VX s _ (kg t s M) va (fun _ _=>rfl)) (bG u) (fun i hi=>I4 u (hbz A z) t s M i hi)) a6 (fun _ _=>rfl)
def rg{ι α δ γ:Type}(step:ι->α->Option (Step α δ))(its:List ι)(x:α)(k:α->Option γ)(kx:δ->Option γ):Option γ:=match bz step its x with
 |none=>none
 |some (.WT y)=>k y
 |some (.ret z)=>kx z
theorem Si{ι α δ γ:Type}{step:ι->α->Option (Step α δ)}{its:List ι}{x:α}{k:α->Option γ}{kx:δ->Option γ}{r:γ}(h:rg step its x k kx=some r):
  ∃o,bz step its x=some o/\(∀y,o= .WT y->k y=some r)/\(∀z,o= .ret z->kx z=some r):=by
 unfold rg at h;cases hr:bz step its x with
 |none=>rw[hr] at h;cases h
 |some o=>
  rw[hr] at h;refine⟨o,rfl,fun y e=>?_,fun z e=>?_⟩
  ·subst e;exact h
  ·subst e;exact h
theorem PV{F:XO}{σ σ1:AS}(h:Sub F σ σ1):W F [] σ (AQ F σ1):=fun a w u=>h a w u
theorem Sj{α δ:Type}{F:XO}{σ:AS}{ds:α->List (Nat×WA)}{dx:δ->List (Nat×WA)}{y:α}(h:Sub F σ ⟨[],ds y⟩):W F [] σ (RB F ds dx (.next y)):=fun a w u=>h a w u
theorem HB{α δ:Type}{F:XO}{σ:AS}{ds:α->List (Nat×WA)}{dx:δ->List (Nat×WA)}{z:δ}(h:Sub F σ ⟨[],dx z⟩):XQ F σ (RB F ds dx (.done z)) .ret:=fun a w u=>h a w u
def small{α:Type}(xs:List α):Option Unit:=if (xs.length:Int)<=4294967296 then some () else none
theorem Gi{α:Type}{xs:List α}{u:Unit}(h:small xs=some u):(xs.length:Int)<=4294967296:=by
 unfold small at h;split at h
 ·assumption
 ·cases h
def pq(n:Int):Option Unit:=if 1<=n/\n<=4294967296 then some () else none
theorem Ek{n:Int}{u:Unit}(h:pq n=some u):1<=n/\n<=4294967296:=by
 unfold pq at h;split at h
 ·assumption
 ·cases h
end Go.Sw
namespace Go.Sw
open Go Go.RowKit
def Wr.c9(u:Value)(h:u.oneCell'=true):Wr Unit where
 n:=1
 agg:=false
 ok _ _ _ cs:=cs=[u]
 len h:=by rw[h];rfl
 one _:=rfl
 cell hc c hm:=by rw[hc] at hm;simp at hm;subst hm;exact h
 mono h _:=h
instance (u:Value) (h:u.oneCell'=true):YV (Wr.c9 u h):=⟨fun h=>h⟩
theorem Hp{u:Value}{hu:u.oneCell'=true}{S w v}:(Wr.c9 u hu).val () S w v↔v=u:=
 ⟨fun⟨_,z,A⟩=>by have:_=[u]:=z;subst this;exact A,fun h=>⟨_,rfl,h⟩⟩
def Wr.cp{α:Type}(b off:Nat)(e:Wr α):Wr α where
 n:=1
 agg:=false
 ok x S w cs:=cs=[.pointer (some ⟨b,off,none⟩)]/\∃u,b<w.heap.size/\¬S b/\WK w b off u/\e.ok x S w u
 len h:=by rw[h.1];rfl
 one _:=rfl
 cell hc c hm:=by rw[hc.1] at hm;simp at hm;subst hm;rfl
 mono h k:=by
  obtain⟨B,u,z,A,C,D⟩:=h;exact⟨B,u,T4 z k.size,(k.I9 b z A).2,C.mono z A k,e.mono D k⟩
theorem Mw{α:Type}{b off:Nat}{e:Wr α}{x:α}{S w v}:(Wr.cp b off e).val x S w v↔v= .pointer (some ⟨b,off,none⟩)/\∃ds,b<w.heap.size/\¬S b/\WK w b off ds/\e.ok x S w ds:=
 ⟨fun⟨_,u,z⟩=>by obtain⟨rfl,A⟩:=u;exact⟨z,A⟩,fun h=>⟨_,⟨rfl,h.2⟩,h.1⟩⟩
section
variable {F:XO}{σ:AS}{s:Slot}{d:Option Tmp}{ty:TypeId}{p:String}{af:Array Edge}{gd:Option (Nat×Bool)}{x y z:Operand}
theorem eK{u:Value}(h:u.oneCell'=true):JO F ⟨d,.assign (.const u),ty,p,af,gd⟩ σ (.v (Wr.c9 u h) ()) []:=by
 intro ρ S a w K;exact WB.value (w':=w) (v:=u) (by simp[execOp,Act.eval]) (YC.same (by simp only[Slot.ok];exact Hp.2 rfl))
theorem mO{α:Type}{b off:Nat}{e:Wr α}{v:α}{U:TypeId}(hx:dF σ.g x=some (.v (Wr.cp b off e) v))(hA:∀w,(isAgg U).run F.P w= .ok e.agg w)(hS:∀w,(sizeOf U).run F.P w= .ok e.n w):
  JO F ⟨d,.load U x,ty,p,af,gd⟩ σ (.v e v) []:=by
 intro ρ S a w K;have h:=K.slot x (by simp[Op.operands]) _ hx;simp only[Slot.ok] at h;obtain⟨A,u,C,D,B,z⟩:=Mw.1 h;refine WB.value (w':=w) (v:=e.pk u) ?_ (YC.same (by simp only[Slot.ok];exact⟨u,z,rfl⟩));have:=Gf (P:=F.P) B z hA hS;simp[execOp,A,Instr.loadAt,Instr.sureAddr,this]
end
def SW(S:Nat->Prop)(B:Nat)(W:World)(j:Nat):Prop:=S j\/(B<=j/\j<W.heap.size)
abbrev FW(P:Program)(N:Nat)(S:Nat->Prop)(B:Nat)(W:World):XO:=⟨P,N,SW S B W,W,fun _=>False,none,[]⟩
structure qc (P:Program) (S:Nat->Prop) (w:World) (ρ:Nat->LV) (l:Nat) (J:Nat->World->Prop) (Jx:World->Prop) (items:List (List Slot)):Prop where
 low:∀k,S k->k<w.heap.size
 I9:∀k W,J k W->w.heap.size<=W.heap.size/\∀b,b<w.heap.size->¬S b->W.heap[b]? =w.heap[b]?
 below:∀k W W',J k W->Below W.heap.size W W'->J k W'
 aKj:∀W W',Jx W->Below W.heap.size W W'->Jx W'
 aHd:∀k item W0 W us,items[k]? =some item->J k W0->Below W0.heap.size W0 W->aW ρ (SW S w.heap.size W0) W item us->∃fn tmps assign body,(Instr.yield l us.toArray).run P W= .ok (.round l fn tmps assign body) W/\
   RoundIn Fence.wide 0 P l fn tmps assign body W fun e W'=>(e= .returned (.bool true)/\J (k+1) W')\/(e= .returned (.bool false)/\Jx W')
def u1(ρ:Nat->LV)(S:Nat->Prop)(w:World)(s:Slot):Prop:=s.YS=[]/\∀S1 W1 S2 W2 u,s.ok ρ S1 W1 u->Ext S S2 w W2->s.ok ρ S2 W2 u
theorem u1.flat{α:Type}{e:Wr α}[YV e]{x:α}{ρ S w}:u1 ρ S w (.v e x):=⟨rfl,fun _ _ _ _ u h _=>by
 simp only[Slot.ok] at h ⊢;obtain⟨z,A,B⟩:=h
 exact⟨z,YV.flat A,B⟩⟩
theorem u1.cp{α:Type}{e:Wr α}{x:α}{b off:Nat}{ρ S w}(h:(Slot.v (Wr.cp b off e) x).ok ρ S w (.pointer (some ⟨b,off,none⟩))):u1 ρ S w (.v (Wr.cp b off e) x):=⟨rfl,fun _ _ _ _ u z k=>by
 simp only[Slot.ok] at h z ⊢;obtain⟨rfl,_⟩:=Mw.1 z
 exact gR h k⟩
inductive y7 (ρ:Nat->LV) (S:Nat->Prop) (w:World):List (Nat×Slot)->Prop
 |nil:y7 ρ S w []
 |cons {t:Nat} {s:Slot} {g:List (Nat×Slot)}:u1 ρ S w s->y7 ρ S w g->y7 ρ S w ((t,s)::g)
theorem y7.spec{ρ S w}{g:List (Nat×Slot)}(h:y7 ρ S w g):∀t s,lk g t=some s->u1 ρ S w s:=by
 induction h with
 |nil=>intro t s h;simp[lk] at h
 |cons u _ z=>
  intro t s h;rw[mG] at h;split at h
  ·cases h;exact u
  ·exact z t s h
inductive fj (g:List (Nat×Slot)):List (Nat×Slot)->Prop
 |nil:fj g []
 |cons {t:Nat} {s:Slot} {g':List (Nat×Slot)}:lk g t=some s->fj g g'->fj g ((t,s)::g')
theorem fj.spec{g g':List (Nat×Slot)}(h:fj g g'):∀t s,lk g' t=some s->lk g t=some s:=by
 induction h with
 |nil=>intro t s h;simp[lk] at h
 |cons z _ A=>
  intro t s h;rw[mG] at h;split at h
  ·rename_i u;subst u;cases h;exact z
  ·exact A t s h
theorem Qm{F:XO}{σ:AS}{g':List (Nat×Slot)}(h:fj σ.g g'):Sub F σ ⟨g',σ.d⟩:=fun a w ⟨⟨ρ,u,z⟩,A,B⟩=>⟨⟨ρ,u,fun t s C=>z t s (h.spec t s C)⟩,A,B⟩
theorem kH{F:XO}{σ:AS}{g':List (Nat×Slot)}(hd:σ.d=[])(h:fj σ.g g'):Sub F σ ⟨g',[]⟩:=by rw[<-hd];exact Qm h
section
variable {P:Program}{N:Nat}{S:Nat->Prop}{w:World}{ρ:Nat->LV}{l:Nat}{J:Nat->World->Prop}{Jx:World->Prop}{items:List (List Slot)}
theorem qc.ext(I:qc P S w ρ l J Jx items){k:Nat}{W:World}(h:J k W):Ext S (SW S w.heap.size W) w W:=by
 obtain⟨A,B⟩:=I.I9 k W h;exact⟨A,fun b z u=>⟨B b z u,by rintro (h | h);exact u h;omega⟩⟩
theorem Core.none{F:XO}{ρ:Nat->LV}(hl:∀k,F.S0 k->k<F.w0.heap.size):Core F [] ρ F.w0:=
 ⟨hl,YZ _,fun _ _ _=>rfl,rfl,rfl,rfl,fun i u h=>by simp[aX] at h,fun i u b h=>by simp[aX] at h,fun i j u z b h=>by simp[aX] at h,fun i u b h=>by simp[aX] at h⟩
theorem Un.none{S:Nat->Prop}{ρ:Nat->LV}:Un S ρ []=S:=by
 funext k;refine propext ⟨fun h=>?_,.inl⟩;rcases h with h |⟨i,u,h,_⟩
 ·exact h
 ·simp[aX] at h
theorem Core.ae{F:XO}(hR:∀k,¬F.R k){d:List (Nat×WA)}{ρ:Nat->LV}{W:World}(hc:Core F d ρ W):Below F.w0.heap.size F.w0 W:=⟨hc.os,hc.tape,hc.output,hc.size,fun k h=>hc.frame k h (hR k)⟩
theorem qc.start(I:qc P S w ρ l J Jx items){k:Nat}{W:World}(hJ:J k W){g:List (Nat×Slot)}(hg:y7 ρ S w g){ρ1:Nat->LV}{S1:Nat->Prop}{W1:World}{a:Act}(hs:∀t s,lk g t=some s->s.ok ρ1 S1 W1 (a.tmps.getD t undef))(hz:a.tmps.size=N)(hd:a.defers=[]):
  St (FW P N S w.heap.size W) ⟨g,[]⟩ a W:=by
 refine⟨⟨ρ,Core.none (F:=FW P N S w.heap.size W) (fun k h=>?_),fun t s u=>?_⟩,hz,hd⟩
 ·show k<W.heap.size;rcases h with h | h
  ·have:=I.low k h;have:=(I.I9 _ W hJ).1;omega
  ·exact h.2
 ·obtain⟨A,B⟩:=hg.spec t s u;rw[Un.none];refine B S1 W1 _ W _ (Slot.VX s _ (hs t s u) (Ext.refl _ _) (fun i z=>?_)) (I.ext hJ);rw[A] at z;simp at z
def IQ(N:Nat)(J:Nat->World->Prop)(m:Nat)(gs:Nat->List (Nat×Slot))(Q:Exit->Act->World->Prop)(k:Nat):Exit->Act->World->Prop
 | .normal,a,h=>k<m/\J (k+1) h/\∃F',F'.N=N/\F'.df=[]/\St F' ⟨gs (k+1),[]⟩ a h
 |e,a,h=>Q e a h
theorem Sk{c:Code}{cs:List Code}{Q:Exit->Act->World->Prop}(I:qc P S w ρ l J Jx items){W0:World}{σ:AS}(gs:Nat->List (Nat×Slot))(hg:∀k,y7 ρ S w (gs k))(h0:Sub (FW P N S w.heap.size W0) σ ⟨gs 0,[]⟩)(wj:J 0 W0)
  (h:∀k V,J k V->k<=items.length->Sw.W (FW P N S w.heap.size V) [c] ⟨gs k,[]⟩ (IQ N J items.length gs Q k)):Sw.W (FW P N S w.heap.size W0) (.loop c::cs) σ Q:=by
 intro a wc U;obtain⟨⟨ρ1,j0,Y9⟩,sx,aa⟩:=h0 a wc U;have E:J 0 wc:=I.below 0 W0 wc wj (j0.ae (fun _ h=>h));have R:=I.start (N:=N) E (hg 0) Y9 sx aa;let u:Act->World->Nat->Prop:=fun a V m=>∃k,k+m=items.length/\J k V/\St (FW P N S w.heap.size V) ⟨gs k,[]⟩ a V
 have F:∀a V,(∃m,u a V m)->∃m,u a V m/\∀k,u a V k->m<=k:=by
  rintro a V ⟨m,hm⟩
  induction m using Nat.strongRecOn with
  |_ m ih=>
   by_cases G:∃k,k<m/\u a V k
   ·obtain⟨k,M,D⟩:=G;exact ih k M D
   ·exact⟨m,hm,fun k A=>Nat.le_of_not_lt fun X=>G ⟨k,X,A⟩⟩
 classical
 let μ:Act->World->Nat:=fun a V=>if z:∃m,u a V m then Classical.choose (F a V z) else 0
 have H:∀a V (z:∃m,u a V m),u a V (μ a V)/\∀k,u a V k->μ a V<=k:=by
  intro a V z;have:=aD4 (F a V z);simp only[μ,dif_pos z];exact this
 refine wpIn_loop (Q:=Exit.then (run Fence.wide P Q cs) Q) (fun a V=>∃m,u a V m) μ ⟨items.length,0,by simp,E,R⟩ fun a V z=>?_;obtain⟨⟨k,M,D,h3⟩,G2⟩:=H a V z;have A:=h k V D (by omega) a V h3;refine wpIn_mono (show c.wpIn Fence.wide 0 P _ a V from A) ?_;intro e K L C;cases e<;>simp only[Exit.then,run,IQ] at C ⊢<;>try exact C
 obtain⟨q1,O,F',q3,q4,⟨ρ2,YH,Y8⟩,q5,q6⟩:=C;have T:=I.start (N:=N) O (hg (k+1)) Y8 (by rw[q5,q3]) (by rw[q6,q4]);have B:u K L (items.length - (k+1)):=⟨k+1,by omega,O,T⟩
 refine⟨⟨_,B⟩,?_⟩;have:=(H K L ⟨_,B⟩).2 _ B;omega
theorem Mx{cs:List Code}{Q:Exit->Act->World->Prop}(I:qc P S w ρ l J Jx items){V:World}{k id d d':Nat}{item:List Slot}{pre:List Oper}{yt:Tmp}{xs:List Operand}{ts:Array TypeId}{ty ty':TypeId}{p p':String}{af af':Array Edge}{T:TypeId}
  {σ σ1:AS} {g2:List (Nat×Slot)} (hJ:J k V) (Z1:items[k]? =some item) (XM:Sw.J (FW P N S w.heap.size V) (pre++[(⟨some d,.call ⟨.value (.tmp yt),xs.toArray,ts⟩,ty,p,af,none⟩:Oper),⟨some d',.unOp .not T (.tmp d),ty',p',af',none⟩]).toArray pre σ σ1)
  (hy:lk σ1.g yt=some (.v (Wr.c9 (.func (.yield l) #[] #[]) rfl) ())) (ha:R8 σ1 false xs item) (hil:eC item=[]) (hd1:σ1.d=[]) (hd:Nat.blt d N=true) (hd':Nat.blt d' N=true) (I4:y7 ρ S w g2) (hg2:fj σ1.g g2)
  (ht:∀V',J (k+1) V'->Sw.W (FW P N S w.heap.size V') cs ⟨(d',.v Wr.bool false)::(d,.v Wr.bool true)::g2,[]⟩ Q)
  (hf:∀V',Jx V'->Sw.W ⟨P,N,fun _=>False,V',fun _=>False,none,[]⟩ cs ⟨[(d',.v Wr.bool true)],[]⟩ Q):
  Sw.W (FW P N S w.heap.size V) (.region id (pre++[(⟨some d,.call ⟨.value (.tmp yt),xs.toArray,ts⟩,ty,p,af,none⟩:Oper),⟨some d',.unOp .not T (.tmp d),ty',p',af',none⟩]).toArray false::cs) σ Q:=by
 intro a wc YN;refine wpIn_region_lit ?_;refine XM _ _ a wc YN fun u w1 kf=>?_;obtain⟨⟨ρ1,j0,L⟩,U,aa⟩:=kf;have V2:Below V.heap.size V w1:=j0.ae (fun _ h=>h);have H:=L yt _ hy;simp only[Slot.ok] at H;have H:=Hp.1 H;have K:=cK j0 L (Op.call ⟨.value (.tmp yt),xs.toArray,ts⟩).operands;have X:=ha.spec (ys:=(Op.call ⟨.value (.tmp yt),xs.toArray,ts⟩).operands) (fun x R=>by simp[Op.operands,Call.operands,R]) K;rw[hd1,Un.none] at X;have ad:aW ρ (SW S w.heap.size V) w1 item (xs.map u.eval):=nE _ _ X (by simp only[T3,l7];exact Ext.refl _ _) (fun i C=>by rw[hil] at C;simp at C);obtain⟨fn,ab,ac,body,h1,G⟩:=I.aHd k item V w1 _ Z1 hJ V2 ad;have H7:(execOp u.eval ⟨some d,.call ⟨.value (.tmp yt),xs.toArray,ts⟩,ty,p,af,none⟩).run P w1= .ok (.round l fn ab ac body) w1:=by
  have e1:u.eval (.tmp yt)= .func (.yield l) #[] #[]:=H;have e2:(xs.toArray.map u.eval)=(xs.map u.eval).toArray:=by simp
  simp only[execOp,resolve,e1];simp[go_sem,e2,h1]
 refine Av (F:=FW P N S w.heap.size V) (K:=fun v w'=>(v= .bool true/\J (k+1) w')\/(v= .bool false/\Jx w')) (zS (g:=σ1.g) (GK.none rfl) (fun t x _ R=>L t _ R)) (.inr (.inr (.inr ⟨l,fn,ab,ac,body,w1,H7,G.mono ?_⟩))) ?_
 ·rintro e w' (⟨rfl,A⟩|⟨rfl,A⟩)
  ·exact⟨_,rfl,.inl ⟨rfl,A⟩⟩
  ·exact⟨_,rfl,.inr ⟨rfl,A⟩⟩
 have XI:d<u.tmps.size:=by rw[U];exact B3 hd
 rintro v w' (⟨rfl,A⟩|⟨rfl,A⟩)
 ·have M:St (FW P N S w.heap.size w') ⟨(d,.v Wr.bool true)::g2,[]⟩ (u.put (some d) (.bool true)) w':=by
   refine⟨⟨ρ,Core.none (F:=FW P N S w.heap.size w') (fun q h=>?_),fun t s z=>?_⟩,by rw[kZ,U],aa⟩
   ·show q<w'.heap.size;rcases h with h | h
    ·have:=I.low q h;have:=(I.I9 _ w' A).1;omega
    ·exact h.2
   ·rw[mG] at z;rw[lA u d _ t XI];split at z
    ·rename_i B;cases z;rw[XC B];exact pJ true _ _ _
    ·rename_i B;rw[WV B,Un.none];obtain⟨k1,k2⟩:=I4.spec t s z;refine k2 _ w1 _ w' _ (Slot.VX s _ (L t s (hg2.spec t s z)) (Ext.refl _ _) (fun i C=>?_)) (I.ext A);rw[k1] at C;simp at C
  have O:Sw.J (FW P N S w.heap.size w') (pre++[(⟨some d,.call ⟨.value (.tmp yt),xs.toArray,ts⟩,ty,p,af,none⟩:Oper),⟨some d',.unOp .not T (.tmp d),ty',p',af',none⟩]).toArray [(⟨some d',.unOp .not T (.tmp d),ty',p',af',none⟩:Oper)] ⟨(d,.v Wr.bool true)::g2,[]⟩ ⟨(d',.v Wr.bool false)::(d,.v Wr.bool true)::g2,[]⟩:=
   Sw.J.cons (GK.none rfl) (Jd (b:=true) (by simp[dF,lk])) rfl hd' Sw.J.nil
  have:=O (Exit.then (run Fence.wide P Q cs) Q) [] _ w' M (fun D E G=>wpListIn_nil (show run Fence.wide P Q cs D E from ht w' A D E G));exact this
 ·have M:St ⟨P,N,fun _=>False,w',fun _=>False,none,[]⟩ ⟨[(d,.v Wr.bool false)],[]⟩ (u.put (some d) (.bool false)) w':=by
   refine⟨⟨ρ,Core.none (F:=⟨P,N,fun _=>False,w',fun _=>False,none,[]⟩) (fun q h=>h.elim),fun t s z=>?_⟩,by rw[kZ,U],aa⟩;rw[mG] at z;rw[lA u d _ t XI];split at z
   ·rename_i B;cases z;rw[XC B];exact pJ false _ _ _
   ·simp[lk] at z
  have O:Sw.J ⟨P,N,fun _=>False,w',fun _=>False,none,[]⟩ (pre++[(⟨some d,.call ⟨.value (.tmp yt),xs.toArray,ts⟩,ty,p,af,none⟩:Oper),⟨some d',.unOp .not T (.tmp d),ty',p',af',none⟩]).toArray [(⟨some d',.unOp .not T (.tmp d),ty',p',af',none⟩:Oper)] ⟨[(d,.v Wr.bool false)],[]⟩ ⟨[(d',.v Wr.bool true)],[]⟩:=
   Sw.J.cons (GK.none rfl) (Jd (b:=false) (by simp[dF,lk])) rfl hd' (Sw.J.fin (Qm (.cons (by simp[lk,AS.put]) .nil)))
  have:=O (Exit.then (run Fence.wide P Q cs) Q) [] _ w' M (fun D E G=>wpListIn_nil (show run Fence.wide P Q cs D E from hf w' A D E G));exact this
def ax(P:Program)(fn:Func)(J:Nat->World->Prop)(Jx:World->Prop)(m:Nat):Exit->Act->World->Prop:=bodyPost P fn fun e h=>(∃v,e= .returned v)/\(J m h\/Jx h)
theorem ax.of{fn:Func}{m:Nat}(B7:fn.results= #[]){e:Exit}(he:e= .normal\/e= .ret){a:Act}{V:World}(hd:a.defers=[])(h:J m V\/Jx V):ax P fn J Jx m e a V:=by
 have z:a.defers=[]/\∃v,(results fn a.tmps).run P V= .ok v V/\((∃u,Ending.returned v= .returned u)/\(J m V\/Jx V)):=⟨hd,_,Ur B7,⟨_,rfl⟩,h⟩
 rcases he with rfl | rfl<;>exact z
theorem Sl{gs:Nat->List (Nat×Slot)}{Q:Exit->Act->World->Prop}(I:qc P S w ρ l J Jx items){k:Nat}{V:World}{σ:AS}(hJ:J (k+1) V)(hk:k<items.length)(h:Sub (FW P N S w.heap.size V) σ ⟨gs (k+1),[]⟩):Sw.W (FW P N S w.heap.size V) [] σ (IQ N J items.length gs Q k):=by
 intro a z A;have u:=h a z A;obtain⟨ρ1,B,_⟩:=u.core;exact⟨hk,I.below _ V z hJ (B.ae (fun _ h=>h)),_,rfl,rfl,u⟩
theorem Yj{fn:Func}{gs:Nat->List (Nat×Slot)}{k:Nat}{id:Nat}{Q':Exit->Act->World->Prop}(I:qc P S w ρ l J Jx items)(B7:fn.results= #[]){V:World}{σ:AS}(hJ:J k V)(hk:k=items.length)(hQ:∀a V',ax P fn J Jx items.length .normal a V'->Q' (.exit id) a V'):XQ (FW P N S w.heap.size V) σ (IQ N J items.length gs Q' k) (.exit id):=by
 intro a u z;obtain⟨ρ1,A,_⟩:=z.core;exact hQ a u (ax.of B7 (.inl rfl) z.defers (.inl (hk ▸ I.below _ V u hJ (A.ae (fun _ h=>h)))))
theorem Sn{fn:Func}{Q':Exit->Act->World->Prop}(I:qc P S w ρ l J Jx items)(B7:fn.results= #[]){V:World}{σ:AS}(hJ:Jx V)(hQ:∀a V',ax P fn J Jx items.length .ret a V'->Q' .ret a V'):XQ ⟨P,N,fun _=>False,V,fun _=>False,none,[]⟩ σ Q' .ret:=by
 intro a u z;obtain⟨ρ1,A,_⟩:=z.core;exact hQ a u (ax.of B7 (.inr rfl) z.defers (.inr (I.aKj V u hJ (A.ae (fun _ h=>h)))))
end
theorem Qn{P:Program}{f:FuncId}{fn:Func}{c:Code}{N:Nat}{cap:List Slot}{items:List (List Slot)}{X:Type}
  (hf:P.funcs[f]? =some fn) (hb:fn.body=some c) (hN:fn.ntmps=N) (hle:Nat.ble (cap.length+1) N=true) (us:X->List Value) (gx:X->List (Nat×Slot))
  (ui:∀(ρ:Nat->LV) (S:Nat->Prop) (w:World) (vs:List Value),aW ρ S w cap vs->∃x,vs=us x/\y7 ρ S w (gx x)/\∀t s,lk (gx x) t=some s->∃j u,t=j+1/\vs[j]? =some u/\s.ok ρ S w u)
  (h:∀S w ρ l J Jx x,qc P S w ρ l J Jx items->J 0 w->y7 ρ S w (gx x)->W (FW P N S w.heap.size w) [c] ⟨(0,.v (Wr.c9 (.func (.yield l) #[] #[]) rfl) ())::gx x,[]⟩ (ax P fn J Jx items.length)):ay P f cap items:=by
 intro S w vs ρ l J Jx l8 hv wj aP0 aJt aRq hY;have I:qc P S w ρ l J Jx items:=⟨l8,aP0,aJt,aRq,hY⟩
 obtain⟨x,O,C,K⟩:=ui ρ S w vs hv;refine calls_of_wp hf hb ?_;have L:=Hg hv;have hle:=B3 hle;have D:St (FW P N S w.heap.size w) ⟨(0,.v (Wr.c9 (.func (.yield l) #[] #[]) rfl) ())::gx x,[]⟩ { tmps:=(.func (.yield l) #[] #[]::vs).toArray++Array.replicate (fn.ntmps - (Value.func (.yield l) #[] #[]::vs).toArray.size) undef,defers:=[] } w:=by
  have E:y7 ρ S w ((0,.v (Wr.c9 (.func (.yield l) #[] #[]) rfl) ())::gx x):= .cons (@u1.flat _ (Wr.c9 (.func (.yield l) #[] #[]) rfl) ⟨fun h=>h⟩ _ _ _ _) C;refine I.start (N:=N) wj E (ρ1:=ρ) (S1:=S) (W1:=w) (fun t s A=>?_) ?_ rfl
  ·rw[mG] at A;split at A
   ·rename_i G;subst G;cases A;simp only[Slot.ok];refine Hp.2 ?_;simp[py,Array.getElem?_append]
   ·obtain⟨j,u,rfl,z,B⟩:=K t s A;have F:j<vs.length:=by
     rcases N4 j vs.length with h | h
     ·exact h
     ·simp[al h] at z
    have:((Value.func (.yield l) #[] #[]::vs).toArray++Array.replicate (fn.ntmps - (Value.func (.yield l) #[] #[]::vs).toArray.size) undef).getD (j+1) undef=u:=by
     rw[py,aDn (by simpa using F)];simp[z]
    rw[this];exact B
  ·simp only[aEm,aD9,aEn,D9];omega
 have z:=h S w ρ l J Jx x I wj C _ w D;have B:c.wpIn Fence.wide 0 P (Exit.then (run Fence.wide P (ax P fn J Jx items.length) []) (ax P fn J Jx items.length)) _ w:=z;refine wpIn_wide.1 (wpIn_mono B ?_);intro e a M H;cases e<;>exact H
theorem DH{P:Program}{f:FuncId}{fn:Func}{c:Code}{N:Nat}{α:Type}{e:Wr α}{z:α}{items:List (List Slot)}
  (hf:P.funcs[f]? =some fn) (hb:fn.body=some c) (hN:fn.ntmps=N) (hle:Nat.ble 2 N=true)
  (h:∀S w ρ l J Jx b off,qc P S w ρ l J Jx items->J 0 w->u1 ρ S w (.v (Wr.cp b off e) z)->W (FW P N S w.heap.size w) [c] ⟨[(0,.v (Wr.c9 (.func (.yield l) #[] #[]) rfl) ()),(1,.v (Wr.cp b off e) z)],[]⟩ (ax P fn J Jx items.length)):ay P f [.YI e z] items:=by
 refine Qn (X:=Nat×Nat) hf hb hN hle (fun x=>[.pointer (some ⟨x.1,x.2,none⟩)]) (fun x=>[(1,.v (Wr.cp x.1 x.2 e) z)]) (fun ρ S w vs C=>?_) (fun S w ρ l J Jx x I E F=>h S w ρ l J Jx x.1 x.2 I E (F.spec 1 _ rfl));simp only[aW,Slot.ok] at C;obtain⟨u,O,rfl,⟨b,off,G,rfl,H,K,L,M⟩,rfl⟩:=C;have B:(Slot.v (Wr.cp b off e) z).ok ρ S w (.pointer (some ⟨b,off,none⟩)):=by simp only[Slot.ok];exact Mw.2 ⟨rfl,G,H,K,L,M⟩
 refine⟨(b,off),rfl,.cons (.cp B) .nil,fun t s A=>?_⟩;rw[mG] at A;split at A
 ·rename_i D;cases A;exact⟨0,_,D.symm,rfl,B⟩
 ·simp[lk] at A
theorem Qo{P:Program}{f:FuncId}{fn:Func}{c:Code}{N:Nat}{α β:Type}{e:Wr α}{z:α}{e':Wr β}{z':β}{items:List (List Slot)}
  (hf:P.funcs[f]? =some fn) (hb:fn.body=some c) (hN:fn.ntmps=N) (hle:Nat.ble 3 N=true)
  (h:∀S w ρ l J Jx b off b' A5,qc P S w ρ l J Jx items->J 0 w->u1 ρ S w (.v (Wr.cp b off e) z)->u1 ρ S w (.v (Wr.cp b' A5 e') z')->W (FW P N S w.heap.size w) [c] ⟨[(0,.v (Wr.c9 (.func (.yield l) #[] #[]) rfl) ()),(1,.v (Wr.cp b off e) z),(2,.v (Wr.cp b' A5 e') z')],[]⟩ (ax P fn J Jx items.length)):
  ay P f [.YI e z,.YI e' z'] items:=by
 refine Qn (X:=(Nat×Nat)×(Nat×Nat)) hf hb hN hle (fun x=>[.pointer (some ⟨x.1.1,x.1.2,none⟩),.pointer (some ⟨x.2.1,x.2.2,none⟩)]) (fun x=>[(1,.v (Wr.cp x.1.1 x.1.2 e) z),(2,.v (Wr.cp x.2.1 x.2.2 e') z')]) (fun ρ S w vs E=>?_)
  (fun S w ρ l J Jx x I G F=>h S w ρ l J Jx x.1.1 x.1.2 x.2.1 x.2.2 I G (F.spec 1 _ rfl) (F.spec 2 _ rfl))
 simp only[aW,Slot.ok] at E;obtain⟨u,J2,rfl,⟨b,off,H,rfl,K,L,M,O⟩,u',aa,rfl,⟨b',A5,Q,rfl,R,T,U,V⟩,rfl⟩:=E;have C:(Slot.v (Wr.cp b off e) z).ok ρ S w (.pointer (some ⟨b,off,none⟩)):=by simp only[Slot.ok];exact Mw.2 ⟨rfl,H,K,L,M,O⟩
 have D:(Slot.v (Wr.cp b' A5 e') z').ok ρ S w (.pointer (some ⟨b',A5,none⟩)):=by simp only[Slot.ok];exact Mw.2 ⟨rfl,Q,R,T,U,V⟩
 refine⟨((b,off),(b',A5)),rfl,.cons (.cp C) (.cons (.cp D) .nil),fun t s A=>?_⟩;rw[mG] at A;split at A
 ·rename_i B;cases A;exact⟨0,_,B.symm,rfl,C⟩
 ·rw[mG] at A;split at A
  ·rename_i B;cases A;exact⟨1,_,B.symm,rfl,D⟩
  ·simp[lk] at A
def chunks{α:Type}(n:Nat)(xs:List α):List (List α):=(List.range ((xs.length+n - 1) / n)).map fun k=>(xs.drop (k*n)).take n
theorem xT{α:Type}{n:Nat}(hn:1<=n)(xs:List α){k:Nat}:k<(chunks n xs).length↔k*n<xs.length:=by
 simp only[chunks,lx,aEo];rw[Nat.lt_div_iff_mul_lt (by omega)];omega
theorem My{α:Type}{n:Nat}(hn:1<=n){xs:List α}{k:Nat}(h:k*n<xs.length):(chunks n xs)[k]? =some ((xs.drop (k*n)).take n):=by
 have:=(xT hn xs).2 h;simp only[chunks,lx,aEo] at this;simp[chunks,this]
theorem Kn{α:Type}{xs:List α}{n:Int}(hn:1<=n)(qt:n<=4294967296)(hlen:(xs.length:Int)<=4294967296){k:Nat}(h:(k:Int)*n<xs.length):
  k*n.toNat<xs.length/\sub xs (k*n) xs.length=some (xs.drop (k*n.toNat))/\
  sub xs (k*n) (ar .add .i64 (k*n) (min n ((xs.drop (k*n.toNat)).length:Int)))=some ((xs.drop (k*n.toNat)).take n.toNat)/\
  (ar .add .i64 (k*n) (min n ((xs.drop (k*n.toNat)).length:Int))<=ar .add .i64 (k*n) (min n ((xs.drop (k*n.toNat)).length:Int))/\ar .add .i64 (k*n) (min n ((xs.drop (k*n.toNat)).length:Int))<=xs.length)/\ar .add .i64 (k*n) n=((k+1:Nat):Int)*n:=by
 obtain⟨m,rfl⟩:∃m:Nat,n=m:=⟨n.toNat,by omega⟩
 have u:(0:Int)<=(k:Int)*m:=Int.mul_nonneg (by omega) (by omega);have z:((k:Int)*m)=((k*m:Nat):Int):=by push_cast;rfl
 have C:k*m<xs.length:=by rw[z] at h;exact_mod_cast h
 have A:(xs.drop (k*m)).length=xs.length - k*m:=V8 ..;have B:∀x:Int,0<=x->x<=4294967296->ar .add .i64 (k*m) x=k*m+x:=by
  intro x K L;unfold ar;refine Bb ?_;unfold Db;have D:IntKind.min .i64= -9223372036854775808:=by decide
  have E:IntKind.max .i64=9223372036854775807:=by decide
  rw[D,E];omega
 simp only[p6];have F:(0:Int)<=min (m:Int) ((xs.drop (k*m)).length:Int):=by omega
 have G:min (m:Int) ((xs.drop (k*m)).length:Int)<=4294967296:=by omega
 rw[B _ F G,B _ (by omega) qt];refine⟨C,?_,?_,⟨aDo _,by rw[A];omega⟩,by push_cast;rw[Int.add_mul,Int.one_mul]⟩
 ·unfold sub;rw[XC ⟨u,by omega,aDo _⟩,z,p6,p6,aDc]
 ·unfold sub;rw[XC ⟨u,by omega,by rw[A];omega⟩];have H:((k:Int)*m).toNat=k*m:=by omega
  have I:((k:Int)*m+min (m:Int) ((xs.drop (k*m)).length:Int)).toNat=k*m+min m (xs.drop (k*m)).length:=by omega
  rw[H,I,List.drop_take];congr 1;rw[Nat.add_sub_cancel_left,<-List.take_take,aDc]
def H8{α:Type}(xs:List α):List (Int×α):=(xs.zipIdx.map fun x=>((x.2:Int),x.1)).reverse
end Go.Sw
namespace Go.Sw
open Go Go.RowKit
section
variable {F:XO}{σ:AS}{pb:Option Nat}{s:Slot}{d:Option Tmp}{ty:TypeId}{p:String}{af:Array Edge}{gd:Option (Nat×Bool)}{x y z:Operand}
theorem zZ{T:TypeId}{zv:Value}{cs:List Value}{l:List Slot}{new:List (Nat×WA)}(i:Nat)(hz:∀w,(zeroValue T).run F.P w= .ok zv w)(hc:zv.cells=cs.toArray)(hl:wu cs l new)(hn:cr new)(hf:σ.free new=true)(A7:(eC l).all (fun j=> !Nat.beq j i)=true):
  JO F ⟨d,.alloc T,ty,p,af,gd⟩ σ (.ptr i 0) ((i,.box T l)::new):=by
 intro ρ S a w K;obtain⟨ρ',U,N,K',h3,h4⟩:=AW hn hf K;refine WB.value (w':=w.alloc (.cells cs.toArray T)) (v:= .pointer (some ⟨w.heap.size,0,none⟩)) (by simp[execOp,Instr.alloc,hz,xQ,hc]) ?_;obtain⟨ρ2,V,X,k3,O⟩:=YC.box (ρ:=ρ') (S:=S) (w:=w) (T:=T) i (hl ρ' S w N) A7;have I:∀j,j≠i->ρ2 j=ρ' j:=fun j u=>V j (by rw[cN,WV (iu u)];rfl);have D:∀j A,j≠i->aX new j=some A->ρ2 j= .of (.slice none 0 0):=fun j A u h=>by rw[I j u,N j A h]
 have L:Un S ρ2 ((i,.box T l)::new)=Un S ρ2 [(i,.box T l)]:=by
  funext k;refine propext ⟨fun h=>?_,fun h=>?_⟩
  ·rcases h with h |⟨j,A,C,E⟩
   ·exact .inl h
   ·by_cases u:j=i
    ·subst u;exact .inr ⟨j,.box T l,by simp[aX],E⟩
    ·rw[cN,WV (iu u)] at C;rw[D j A u C] at E;simp[pI,ZE] at E
  ·rcases h with h |⟨j,A,C,E⟩
   ·exact .inl h
   ·rw[cN] at C;split at C
    ·rename_i u;subst u;exact .inr ⟨i,.box T l,by simp[aX],E⟩
    ·simp[aX] at C
 refine⟨ρ2,fun j u=>?_,X,?_,?_,?_,?_⟩
 ·rw[cN] at u;split at u
  ·cases u
  ·rename_i z;rw[I j (iu z)];exact U j u
 ·rw[L];exact k3
 ·intro j A u;rw[L];rw[cN] at u;split at u
  ·rename_i z;subst z;cases u;exact O.own _ _ (by rw[cN,XC rfl])
  ·rename_i z;rw[D j A (iu z) u];exact hn.spec j A u _ _ _
 ·intro j A b u B;rw[cN] at u;split at u
  ·rename_i z;subst z;cases u;exact O.fresh _ _ b (by rw[cN,XC rfl]) B
  ·rename_i z;rw[D j A (iu z) u] at B;simp[pI,ZE] at B
 ·intro j Q A R b u G B M;rw[cN] at u G;split at u
  ·rename_i z;subst z;split at G
   ·rename_i H;exact H
   ·rename_i H;rw[D Q R (iu H) G] at M;simp[pI,ZE] at M
  ·rename_i z;rw[D j A (iu z) u] at B;simp[pI,ZE] at B
def Lns{α β:Type}(e:Wr α)(z:α)(off:Nat)(e':Wr β)(z':β)(u:β->α):Prop:=∀S w cs,e.ok z S w cs->∃a c d,cs=a++(c++d)/\a.length=off/\e'.ok z' S w c/\∀z2 c2,e'.ok z2 S w c2->e.ok (u z2) S w (a++(c2++d))
theorem Lns.here{α:Type}{e:Wr α}{z:α}:Lns e z 0 e z (fun y=>y):=fun S w u h=>⟨[],u,[],by simp,rfl,h,fun B C A=>by simpa using A⟩
theorem Lns.snd{α β γ:Type}{a:Wr α}{b:Wr β}{e':Wr γ}{z:α×β}{z':γ}{off:Nat}{u:γ->β}(h:Lns b z.2 off e' z' u):Lns (Wr.pr a b) z (a.n+off) e' z' (fun y=>(z.1,u y)):=by
 rintro S w M ⟨c,d,rfl,D,L⟩;obtain⟨B,G,C,rfl,H,I,K⟩:=h S w d L;exact⟨c++B,G,C,by simp,by rw[sM,a.len D,H],I,fun E A F=>⟨c,B++(A++C),by simp,D,K E A F⟩⟩
theorem Ut{α β:Type}{e:Wr α}{zs:List α}{z:α}{e':Wr β}{z' z2:β}{u:β->α}{T U:TypeId}{i k off:Nat}(hz:zs[k]? =some z)(hx:dF σ.g x=some (.el i k e.n off))(he:aX σ.d i=some (.arr T e zs))(hy:dF σ.g y=some (.v e' z2))(hp:Lns e z off e' z' u)
  (hS:∀w,(sizeOf U).run F.P w= .ok e'.n w):JM F ⟨none,.store U x y,ty,p,af,gd⟩ σ ⟨σ.g,(i,.arr T e (zs.set k (u z2)))::σ.d⟩:=by
 refine qC he rfl fun ρ a w S I=>?_;have K:=cK S I (Op.store U x y).operands;obtain⟨b,aa,h,cs,A,L,h2,H,h4,h5,h6,h7⟩:=PR K (x:=x) (by simp[Op.operands]) hx he;have G:=qW (s:= .v e' z2) rfl (Ki I hy);simp only[Slot.ZL] at G;obtain⟨B,c,C,rfl,hl,R0,n9⟩:=qU h4 hz;obtain⟨D,M,E,rfl,L8,N,ab⟩:=hp _ w c R0;have O:h++(B++(D++(M++E)++C)++A)=(h++B++D)++(M++(E++C++A)):=by simp
 rw[O] at H;have Q:=lC (P:=F.P) (w:=w) (U:=U) (off:=h.length+(k*e.n+off)) hS (by have:=e'.len G;simp only[bo] at this;omega) (fun q V=>e'.cell G q V) H (by simp[hl,L8,aDu]) (e'.len N);have R:(h++B++D)++((a.eval y).cells.toList++(E++C++A))=h++((B++((D++((a.eval y).cells.toList++E))++C))++A):=by simp
 refine⟨b,w.setRow b ((h++B++D)++((a.eval y).cells.toList++(E++C++A))).toArray,.inl (by rw[L];rfl),bp.setRow w b _,?_,fun X=>?_⟩
 ·exact lD h2 Q
 ·refine .inr ⟨b,aa,h,B++((D++((a.eval y).cells.toList++E))++C),A,by simpa using L,?_,Wr.WE (n9 (u z2) _ (ab z2 _ G)) X,by simpa using h5,?_,by simpa using h7⟩
  ·rw[<-R];exact setRow_heap w b _ _ T _ H
  ·have:=e'.len G;have:=e'.len N;simp only[sM] at h6 ⊢;omega
theorem El{α:Type}{x:Option α}{r:α}(h:x=some r):(x.bind fun v=>some v)=some r:=by rw[h];rfl
end
end Go.Sw
namespace Go.Sw
open Go
theorem DI{α:Type}(xs:List α):(H8 xs).length=xs.length:=by simp[H8]
theorem HC{α:Type}{xs:List α}{k:Nat}(h:k<xs.length):∃x,(H8 xs)[k]? =some ((xs.length:Int) - 1 - (k:Nat),x)/\Sw.idx xs ((xs.length:Int) - 1 - (k:Nat))=some x:=by
 have u:xs.length - 1 - k<xs.length:=by omega
 refine⟨xs[xs.length - 1 - k],?_,?_⟩
 ·unfold H8;rw[List.getElem?_reverse (by simpa using h)];simp only[lx,List.length_zipIdx,ly,List.getElem?_zipIdx,F5 u,rh,aC4];congr 2;omega
 ·unfold Sw.idx;have e:((xs.length:Int) - 1 - (k:Nat)).toNat=xs.length - 1 - k:=by omega
  rw[XC (by omega),e,F5 u]
theorem HD{n k:Nat}(h:(n:Int)<=4294967296)(hk:k<=n):ar .sub .i64 ((n:Int) - 1 - (k:Nat)) 1=(n:Int) - 1 - ((k+1:Nat):Int):=by
 have e:(n:Int) - 1 - (k:Nat) - 1=(n:Int) - 1 - ((k+1:Nat):Int):=by push_cast;omega
 show IntKind.wrap .i64 _=_;rw[e];refine Bb ?_;unfold Db;have u:IntKind.min .i64= -9223372036854775808:=by decide
 have z:IntKind.max .i64=9223372036854775807:=by decide
 rw[u,z];omega
theorem DJ{n:Nat}(h:(n:Int)<=4294967296):ar .sub .i64 (n:Int) 1=(n:Int) - 1 - ((0:Nat):Int):=by
 have e:(n:Int) - 1=(n:Int) - 1 - ((0:Nat):Int):=by simp
 show IntKind.wrap .i64 ((n:Int) - 1)=_;refine(Bb ?_).trans e;unfold Db;have u:IntKind.min .i64= -9223372036854775808:=by decide
 have z:IntKind.max .i64=9223372036854775807:=by decide
 rw[u,z];omega
end Go.Sw
namespace Go.Sw
open Go Go.RowKit
section
variable {F:XO}{σ:AS}{x y:Operand}{d:Option Tmp}{ty:TypeId}{p:String}{af:Array Edge}{gd:Option (Nat×Bool)}
end
end Go.Sw
namespace Go.Sw
open Go
theorem Bh{F:XO}{σ:AS}{o:Oper}{l:List Slot}{new:List (Nat×WA)}{α:Type}{e:Wr α}{z:α}(h:JO F o σ (.agg l) new)(hs:N5 l e z)(ha:e.agg=true):JO F o σ (.v e z) new:=by
 intro ρ S a w K;refine(h ρ S a w K).mono ?_;rintro v H ⟨ρ',D,E,A,G⟩;refine⟨ρ',D,E,?_,G⟩;simp only[Slot.ok] at A ⊢;obtain⟨u,B,C⟩:=A;exact⟨u,(hs _ _ _ u).1 C,by rw[B];simp[Wr.pk,ha]⟩
end Go.Sw
namespace Go.Sw
open Go
theorem HE{P:Program}{fn:Func}{a:Act}{w:World}{r0 r1 r2 r3 r4:ResultVar}{v0 v1 v2 v3 v4:Value}(B7:fn.results= #[r0,r1,r2,r3,r4])(h0:(wS a r0).run P w= .ok v0 w)(h1:(wS a r1).run P w= .ok v1 w)(h2:(wS a r2).run P w= .ok v2 w)(h3:(wS a r3).run P w= .ok v3 w)(h4:(wS a r4).run P w= .ok v4 w):(results fn a.tmps).run P w= .ok (.tuple #[v0,v1,v2,v3,v4]) w:=by
 rw[xO,B7];simp only[aDy,aCt,aEs,Sem.run_bind,Sem.run_map,h0,h1,h2,h3,h4,Result.andThen_ok,Sem.run_pure];simp
section
variable {F F':XO}{σ:AS}{fn:Func}{r0 r1 r2 r3 r4:ResultVar}{s0 s1 s2 s3 s4:Slot}{new:List (Nat×WA)}
theorem So(hF:X4 F F')(hR:∀k,¬F.R k)(B7:fn.results= #[r0,r1,r2,r3,r4])(h0:RV F σ r0 s0)(h1:RV F σ r1 s1)(h2:RV F σ r2 s2)(h3:RV F σ r3 s3)(h4:RV F σ r4 s4)(hn:C3 new σ.d)(YX:lB (.WU [s0,s1,s2,s3,s4]) new=true):XQ F' σ (Pm F fn (.WU [s0,s1,s2,s3,s4]) new) .ret:=
 yR hF fun ρ a w h u=>by
  obtain⟨z,E,b0⟩:=h0 ρ a w h u;obtain⟨A,G,H⟩:=h1 ρ a w h u;obtain⟨B,I,K⟩:=h2 ρ a w h u;obtain⟨C,L,M⟩:=h3 ρ a w h u;obtain⟨D,N,O⟩:=h4 ρ a w h u;refine⟨_,HE B7 E G I L N,_,rfl,YC.u3 hR h ?_ hn YX⟩;simp only[Slot.ok];exact⟨[z,A,B,C,D],rfl,by simp only[aW];exact⟨z,_,rfl,b0,A,_,rfl,H,B,_,rfl,K,C,_,rfl,M,D,_,rfl,O,rfl⟩⟩
end
end Go.Sw
namespace Go.Sw
open Go Go.RowKit
def Ld(g:List (Nat×Slot))(o:Oper):List Nat:=o.op.operands.toList.flatMap fun x=>match dF g x with | some s=>s.YS | none=>[]
structure Loc (ops:Array Oper) (o:Oper) (σ0 σ:AS):Prop where
 g:∀u∈looks ops o,lk σ.g u=lk σ0.g u
 d:∀l∈Ld σ0.g o,aX σ.d l=aX σ0.d l
section
variable {F:XO}{ops:Array Oper}{o:Oper}{σ0 σ:AS}
theorem Loc.ev(h:Loc ops o σ0 σ){x:Operand}(hx:x∈o.op.operands):dF σ.g x=dF σ0.g x:=by
 cases x with
 |tmp u=>exact h.g u (by simp only[looks,N9,aD7];exact .inl ⟨_,by simpa using hx,by simp[rd]⟩)
 |const u=>rfl
 |global g=>rfl
 |func f=>rfl
theorem Loc.C6(h:Loc ops o σ0 σ){x:Operand}{s:Slot}{l:Nat}(hx:x∈o.op.operands)(hs:dF σ0.g x=some s)(hl:l∈s.YS):aX σ.d l=aX σ0.d l:=
 h.d l (aD7.2 ⟨x,by simpa using hx,by rw[hs];exact hl⟩)
theorem PW{s:Slot}{new:List (Nat×WA)}(h:JO F o σ0 s new)(hl:Loc ops o σ0 σ):JO F o σ s new:=fun ρ S a w K=>
 h ρ S a w ⟨K.low,fun x u s z=>K.slot x u s (by rw[hl.ev u];exact z),fun x u s z i A B C=>K.C6 x u s (by rw[hl.ev u];exact z) i A B (by rw[hl.C6 u z A];exact C)⟩
theorem PX{b:Bool}(h:GK ops σ0.g o b)(hl:Loc ops o σ0 σ):GK ops σ.g o b:=by
 unfold GK at h ⊢;split
 ·rename_i z;rw[z] at h;exact h
 ·rename_i j F z;rw[z] at h;have B:∀t,(ops[j]?).bind (·.dst)=some t->lk σ.g t=lk σ0.g t:=fun t C=>hl.g t (by simp[looks,z,C]);rcases h with⟨t,x,u,A,D⟩|⟨E,t,u,A⟩
  ·exact .inl ⟨t,x,u,by rw[B t u];exact A,D⟩
  ·exact .inr ⟨E,t,u,by rw[B t u];exact A⟩
end
structure Itm where
 s:Slot
 nw:List (Nat×WA)
 fr:Bool
 rl:List Nat
def Yk(ops:Array Oper)(ms:List Nat):Bool:=Nat.beq ms.length ops.size && (List.range ops.size).all fun i=>match ops[i]? with
 |none=>false
 |some o=>Nat.beq (ms.getD i 0) ((Mq o).foldl (fun m j=>m ||| 1 <<< j ||| ms.getD j 0) 0)
inductive me (ops:Array Oper):Nat->Nat->Prop
 |one {i j:Nat} {o:Oper}:ops[i]? =some o->j∈Mq o->me ops i j
 |up {i k j:Nat} {o:Oper}:ops[i]? =some o->k∈Mq o->me ops k j->me ops i j
theorem me.down{ops:Array Oper}{L:Nat->Bool}(h:GP ops L):∀{i j:Nat},me ops i j->L i=true->L j=true:=by
 intro i j A
 induction A with
 |one z B=>exact fun u=>h _ _ u z _ B
 |up z C _ D=>exact fun u=>D (h _ _ u z _ C)
theorem Hq{ms:List Nat}{b:Nat}:∀{l:List Nat} {m:Nat},(l.foldl (fun m j=>m ||| 1 <<< j ||| ms.getD j 0) m).testBit b=true->m.testBit b=true\/∃j∈l,j=b\/(ms.getD j 0).testBit b=true
 | [],m,h=> .inl h
 |j::l,m,h=>by
  rw[V6] at h;rcases Hq (l:=l) h with h |⟨q,u,h⟩
  ·rw[Nat.testBit_or,Nat.testBit_or,aCi,aCi] at h;rcases h with (h | h) | h
   ·exact .inl h
   ·refine .inr ⟨j,ao,.inl ?_⟩;rw[Nat.one_shiftLeft,Nat.testBit_two_pow] at h;simpa using h
   ·exact .inr ⟨j,ao,.inr h⟩
  ·exact .inr ⟨q,aj _ u,h⟩
theorem Hr{ops:Array Oper}(hb:Df ops=true){i j:Nat}{o:Oper}(ho:ops[i]? =some o)(hj:j∈Mq o):j<i:=by
 have u:i<ops.size:=by
  rcases N4 i ops.size with h | h
  ·exact h
  ·simp[aBv h] at ho
 have:=o6.1 hb i (lv.2 u);simp only[ho] at this;simpa using o6.1 this j hj
theorem MF{ops:Array Oper}{ms:List Nat}(hb:Df ops=true)(hm:Yk ops ms=true):∀i j,(ms.getD i 0).testBit j=true->me ops i j:=by
 simp only[Yk,G7,o6] at hm;obtain⟨A,hm⟩:=hm;have A:=A1 A;intro i
 induction i using Nat.strongRecOn with
 |_ i D=>
  intro j h;rcases N4 i ops.size with C | E
  ·have B:=hm i (lv.2 C);have u:ops[i]? =some ops[i]:=aBt C;simp only[u] at B;rw[A1 B] at h;rcases Hq h with h |⟨q,z,rfl | h⟩
   ·simp at h
   ·exact .one u z
   ·exact .up u z (D q (Hr hb u z) j h)
  ·rw[R4,al (by omega)] at h;simp at h
theorem me.lt{ops:Array Oper}(hb:Df ops=true):∀{i j:Nat},me ops i j->j<i:=by
 intro i j h
 induction h with
 |one u z=>exact Hr hb u z
 |up u A _ B=>exact Nat.lt_trans B (Hr hb u A)
def Hs(ops:Array Oper)(n:Nat)(ms:List Nat):Bool:=
 (List.range ops.size).all fun i=>
  match ops[i]? with
  |none=>false
  |some o=>
   if i<n then
    (match o.dst with
     |none=>true
     |some t=>(List.range n).all fun j=>
       match ops[j]? with
       |none=>false
       |some h=>(j==i || h.dst != some t) && (!(looks ops h).contains t || (ms.getD j 0).testBit i || (ms.getD i 0).testBit j))
   else (List.range i).all fun j=>(ms.getD i 0).testBit j
def Bi(dst:Nat->Option Tmp)(sl:Nat->Slot)(g:List (Nat×Slot)):Nat->(Nat->Bool)->List (Nat×Slot)
 | 0,_=>g
 |m+1,L=>bif L m then iR (dst m) (sl m) (Bi dst sl g m L) else Bi dst sl g m L
section
variable {dst:Nat->Option Tmp}{sl:Nat->Slot}{g:List (Nat×Slot)}{nw:Nat->List (Nat×WA)}{d:List (Nat×WA)}
theorem Ht{t:Option Tmp}{s:Slot}{g:List (Nat×Slot)}{u:Nat}:lk (iR t s g) u=if t=some u then some s else lk g u:=by
 cases t with
 |none=>simp[iR]
 |some t=>simp only[iR,mG,B1]
theorem Em{u:Nat}{L L':Nat->Bool}:∀{m:Nat},(∀i,i<m->dst i=some u->L i=L' i)->lk (Bi dst sl g m L) u=lk (Bi dst sl g m L') u
 | 0,_=>rfl
 |m+1,h=>by
  have A:=Em (m:=m) (fun i B=>h i (by omega));simp only[Bi];by_cases z:dst m=some u
  ·rw[h m (by omega) z];cases L' m<;>simp[Ht,z,A]
  ·cases L m<;>cases L' m<;>simp[Ht,z,A]
theorem HF{u j:Nat}{L:Nat->Bool}(hj:dst j=some u)(hL:L j=true):∀{m:Nat},j<m->(∀i,i<m->i≠j->dst i≠some u)->lk (Bi dst sl g m L) u=some (sl j)
 | 0,h,_=>by omega
 |m+1,h,A=>by
  simp only[Bi];by_cases z:j=m
  ·subst z;rw[hL];simp[Ht,hj]
  ·have B:=HF (m:=m) hj hL (by omega) (fun i C=>A i (by omega));have:=A m (by omega) (iu z);cases L m<;>simp[Ht,this,B]
theorem Sp{y:Nat×Slot}{L:Nat->Bool}:∀{m:Nat},y∈Bi dst sl g m L->y∈g\/∃i,i<m/\L i=true/\y.2=sl i
 | 0,h=> .inl h
 |m+1,h=>by
  simp only[Bi] at h;cases hL:L m with
  |false=>
   rw[hL] at h;rcases Sp (m:=m) h with h |⟨i,z,u⟩
   ·exact .inl h
   ·exact .inr ⟨i,by omega,u⟩
  |true=>
   rw[hL] at h;simp only[XX] at h;have:y∈Bi dst sl g m L\/y.2=sl m:=by
    cases hd:dst m with
    |none=>rw[hd] at h;exact .inl h
    |some t=>
     rw[hd] at h;rcases q9.1 h with rfl | h
     ·exact .inr rfl
     ·exact .inl h
   rcases this with h | h
   ·rcases Sp (m:=m) h with h |⟨i,z,u⟩
    ·exact .inl h
    ·exact .inr ⟨i,by omega,u⟩
   ·exact .inr ⟨m,by omega,hL,h⟩
end
theorem St.congr{F:XO}{σ σ':AS}{a:Act}{w:World}(hg:∀u,lk σ'.g u=lk σ.g u)(hd:∀l,aX σ'.d l=aX σ.d l)(h:St F σ a w):St F σ' a w:=by
 obtain⟨⟨ρ,B,C⟩,D,E⟩:=h;have z:∀l en,aX σ.d l=some en↔aX σ'.d l=some en:=fun l en=>by rw[hd]
 exact⟨⟨ρ,B.congr z,fun t s A=>by rw[<-Un.congr z];exact C t s (by rw[<-hg];exact A)⟩,D,E⟩
section
variable {F:XO}{ops:Array Oper}
theorem Gj{dst:Nat->Option Tmp}{sl:Nat->Slot}{g:List (Nat×Slot)}{L:Nat->Bool}{m:Nat}:∀{n:Nat},m<=n->(∀i,m<=i->i<n->L i=false)->Bi dst sl g n L=Bi dst sl g m L
 | 0,h,_=>by
  have:m=0:=by omega
  subst this;rfl
 |n+1,h,z=>by
  rcases N4 n m with u | u
  ·have:m=n+1:=by omega
   subst this;rfl
  ·simp only[Bi,z n u (by omega),pF];exact Gj u fun i A B=>z i A (by omega)
theorem Jh{dst:Nat->Option Tmp}{sl:Nat->Slot}{g:List (Nat×Slot)}{L:Nat->Bool}:∀{m:Nat},Bi dst sl g (m+1) L=Bi (fun i=>dst (i+1)) (fun i=>sl (i+1)) (bif L 0 then iR (dst 0) (sl 0) g else g) m (fun i=>L (i+1))
 | 0=>rfl
 |m+1=>by rw[Bi,Jh (m:=m)];rfl
end
end Go.Sw
namespace Go.Sw
open Go Go.RowKit
section
variable {F:XO}{ops:Array Oper}{os:List Oper}{σ σ':AS}{its:List Itm}{s s0:Slot}{d:Option Tmp}{pb:Option Nat}{ty:TypeId}{p:String}{af:Array Edge}{gd:Option (Nat×Bool)}{x y:Operand}
end
end Go.Sw
namespace Go.Sw
open Go Go.RowKit
def Wr.raw:Wr Value where
 n:=1
 agg:=false
 ok x _ _ cs:=cs=[x]/\x.oneCell'=true
 len h:=by rw[h.1];rfl
 one _:=rfl
 cell h c hc:=by rw[h.1] at hc;simp at hc;subst hc;exact h.2
 mono h _:=h
def j4{α:Type}(T:TypeId)(e:Wr α)(xs:List α)(S:Nat->Prop)(w:World)(v:Value):Prop:=
 (xs=[]/\v= .slice none 0 0)\/∃b cap pre cs post,v= .slice (some ⟨b,pre.length,none⟩) xs.length cap/\
   w.heap[b]? =some (.cells (pre++(cs++post)).toArray T (0,0))/\e.ZK xs S w cs/\xs.length<=cap/\cap*e.n<=cs.length+post.length/\xs.length<=140737488355328
theorem j4.mono{α:Type}{T:TypeId}{e:Wr α}{xs:List α}{S S':Nat->Prop}{w w':World}{v:Value}(h:j4 T e xs S w v)(k:Ext S S' w w')(hb:∀b,ZE v=some b->w'.heap[b]? =w.heap[b]?):j4 T e xs S' w' v:=by
 rcases h with h |⟨b,z,A,B,C,u,D,E,F⟩
 ·exact .inl h
 ·exact .inr ⟨b,z,A,B,C,u,by rw[hb b (by rw[u];rfl)];exact D,Wr.WE E k,F⟩
theorem j4.slice{α:Type}{T:TypeId}{e:Wr α}{xs:List α}{S:Nat->Prop}{w:World}{v:Value}(h:j4 T e xs S w v):∃a c,v= .slice a xs.length c:=by
 rcases h with⟨rfl,rfl⟩|⟨b,z,A,B,C,u,_⟩
 ·exact⟨none,0,rfl⟩
 ·exact⟨_,_,u⟩
end Go.Sw
namespace Go.Sw
open Go Go.RowKit
theorem Core.mj{F:XO}{d d':List (Nat×WA)}{ρ ρ':Nat->LV}{w:World}(hc:Core F d ρ w)
  (hU:∀l en b,aX d' l=some en->qT (ρ' l) b->∃l0 ZJ,aX d l0=some ZJ/\qT (ρ l0) b)
  (B9:∀i j en en' b,aX d' i=some en->aX d' j=some en'->qT (ρ' i) b->qT (ρ' j) b->i=j)
  (A6:Ext (Un F.S0 ρ d) (Un F.S0 ρ' d') w w->∀l en,aX d' l=some en->en.ok ρ' (Un F.S0 ρ' d') w (ρ' l)):
  Core F d' ρ' w/\Ext (Un F.S0 ρ d) (Un F.S0 ρ' d') w w:=by
 have B:Ext (Un F.S0 ρ d) (Un F.S0 ρ' d') w w:=⟨YZ _,fun k _ C=>⟨rfl,fun h=>C (by
  rcases h with h |⟨l,en,D,E⟩
  ·exact .inl h
  ·obtain⟨l0,ZJ,u,z⟩:=hU l en k D E
   exact .inr ⟨l0,ZJ,u,z⟩)⟩⟩
 refine⟨⟨hc.low,hc.size,hc.frame,hc.os,hc.tape,hc.output,A6 B,fun i en b h A=>?_,B9,fun i en b h A=>?_⟩,B⟩
 ·obtain⟨l0,ZJ,u,z⟩:=hU i en b h A;exact hc.fresh l0 ZJ b u z
 ·obtain⟨l0,ZJ,u,z⟩:=hU i en b h A;exact hc.apart l0 ZJ b u z
structure Rws {α:Type} (T2:TypeId) (e:Wr α) (xss:List (List α)) (o:Option Nat) (S:Nat->Prop) (w:World) (x:Nat->Prop) (b0:Option Nat) (hs:List Value):Prop where
 len:hs.length=xss.length
 ok:∀j xs h,o≠some j->xss[j]? =some xs->hs[j]? =some h->j4 T2 e xs S w h
 own:∀j h k,o≠some j->hs[j]? =some h->ZE h=some k->x k/\b0≠some k
 inj:∀j j' h h' k,o≠some j->o≠some j'->hs[j]? =some h->hs[j']? =some h'->ZE h=some k->ZE h'=some k->j=j'
section
variable {F:XO}{σ:AS}{pb:Option Nat}{s:Slot}{d:Option Tmp}{ty:TypeId}{p:String}{af:Array Edge}{gd:Option (Nat×Bool)}{x y:Operand}{α:Type}{e:Wr α}{T T2 U:TypeId}{xss:List (List α)}{i j:Nat}
theorem Hu{dd:List (Nat×WA)}{l k:Nat}{en en':WA}(h:aX ((k,en')::dd) l=some en):(l=k/\en=en')\/(l≠k/\aX dd l=some en):=by
 rw[cN] at h;split at h
 ·rename_i u;cases h;exact .inl ⟨u.symm,rfl⟩
 ·rename_i u;exact .inr ⟨fun e=>u e.symm,h⟩
theorem Mz{v:Value}{x:Nat->Prop}{b:Nat}:qT ⟨v,x⟩ b↔ZE v=some b\/x b:=Iff.rfl
end
end Go.Sw
namespace Go.Sw
open Go Go.RowKit
theorem Core.step{F:XO}{d d':List (Nat×WA)}{ρ ρ':Nat->LV}{w w':World}(hc:Core F d ρ w){c:Option Nat}(dg:m9 c w w')(l5:∀b,c=some b->∃l en,aX d l=some en/\qT (ρ l) b)
  (hU:∀l en b,aX d' l=some en->qT (ρ' l) b->(w.heap.size<=b/\b<w'.heap.size)\/∃l0 ZJ,aX d l0=some ZJ/\qT (ρ l0) b)
  (B9:∀i j en en' b,aX d' i=some en->aX d' j=some en'->qT (ρ' i) b->qT (ρ' j) b->i=j)
  (A6:Ext (Un F.S0 ρ d) (Un F.S0 ρ' d') w w'->∀l en,aX d' l=some en->en.ok ρ' (Un F.S0 ρ' d') w' (ρ' l)):
  Core F d' ρ' w'/\Ext (Un F.S0 ρ d) (Un F.S0 ρ' d') w w':=by
 have E:Ext (Un F.S0 ρ d) (Un F.S0 ρ' d') w w':=⟨dg.size,fun k C G=>⟨dg.other k C (fun e=>G (by obtain⟨l,en,A,B⟩:=l5 k e.symm;exact .inr ⟨l,en,A,B⟩)),fun h=>G (by
  rcases h with h |⟨l,en,A,B⟩
  ·exact .inl h
  ·rcases hU l en k A B with h |⟨l0,ZJ,u,z⟩
   ·omega
   ·exact .inr ⟨l0,ZJ,u,z⟩)⟩⟩
 refine⟨⟨hc.low,fc hc.size dg.size,fun k C H=>?_,dg.os.trans hc.os,dg.tape.trans hc.tape,dg.output.trans hc.output,A6 E,fun i en b h D=>?_,B9,fun i en b h D=>?_⟩,E⟩
 ·rw[dg.other k (T4 C hc.size) (fun e=>?_)]
  ·exact hc.frame k C H
  ·obtain⟨l,en,A,B⟩:=l5 k e.symm;rcases (hc.fresh l en k A B).1 with h | h
   ·omega
   ·exact H h
 ·rcases hU i en b h D with u |⟨l0,ZJ,u,z⟩
  ·exact⟨.inl (fc hc.size u.1),u.2⟩
  ·exact⟨(hc.fresh l0 ZJ b u z).1,T4 (hc.fresh l0 ZJ b u z).2 dg.size⟩
 ·rcases hU i en b h D with u |⟨l0,ZJ,u,z⟩
  ·intro I;have:=hc.low b I;have:=hc.size;omega
  ·exact hc.apart l0 ZJ b u z
section
variable {F:XO}{σ:AS}{pb:Option Nat}{s:Slot}{d:Option Tmp}{ty:TypeId}{p:String}{af:Array Edge}{gd:Option (Nat×Bool)}{x y z:Operand}{α:Type}{e:Wr α}{T T2 U:TypeId}{xss:List (List α)}{i j m:Nat}
theorem AZ{xs ys:List α}{lo hi:Int}{S:Nat->Prop}{w:World}{v:Value}{a:Option Addr}{cap:Nat}{ρ:Nat->LV}(hs:sub xs lo hi=some ys)(h:j4 T e xs S w v)(hv:v= .slice a xs.length cap)(hρ:(ρ i).v=v):
  (Slot.sub i (lo.toNat*e.n) (hi.toNat - lo.toNat)).ok ρ S w (.slice (if cap=lo.toNat then a else a.map (·.add (lo.toNat*e.n))) (hi.toNat - lo.toNat) (cap - lo.toNat)):=by
 obtain⟨E,F,G,_⟩:=gU hs;have D:xs.length<=cap:=by
  rcases h with⟨rfl,rfl⟩|⟨b,z,A,B,C,rfl,_,_,H,_⟩
  ·simp
  ·simp only[Value.slice.injEq] at hv;omega
 simp only[Slot.ok];rw[hρ,hv];refine⟨⟨_,_,_,rfl⟩,cap - lo.toNat,if cap=lo.toNat then 0 else lo.toNat*e.n,by omega,?_,?_⟩
 ·split
  ·right;omega
  ·exact .inl rfl
 ·split
  ·cases a with
   |none=>rfl
   |some u=>
    have:u.spot=none:=by
     rcases h with⟨rfl,rfl⟩|⟨b,z,A,B,C,rfl,_⟩
     ·cases hv
     ·simp only[Value.slice.injEq,B1] at hv;rw[<-hv.1]
    obtain⟨b,o,q⟩:=u;simp only at this;subst this;rfl
  ·cases a with
   |none=>rfl
   |some u=>
    have:u.spot=none:=by
     rcases h with⟨rfl,rfl⟩|⟨b,z,A,B,C,rfl,_⟩
     ·cases hv
     ·simp only[Value.slice.injEq,B1] at hv;rw[<-hv.1]
    obtain⟨b,o,q⟩:=u;simp only at this;subst this;simp[Ug,Addr.add_lit]
theorem Uu{xs:List α}{xs':Array Operand}{ρ:Nat->LV}{S a w}(K:r7 σ xs' ρ S a w)(hm:x∈xs')(hx:dF σ.g x=some (.ref i))(he:aX σ.d i=some (.arr T e xs)):
  ∃ad cap,a.eval x= .slice ad xs.length cap/\xs.length<=cap/\(ρ i).v= .slice ad xs.length cap/\j4 T e xs S w (ρ i).v:=by
 obtain⟨A,h,_⟩:=yT K hm hx he;have h:j4 T e xs S w (ρ i).v:=h;obtain⟨ad,cap,u⟩:=h.slice;refine⟨ad,cap,by rw[A,u],?_,u,h⟩;rcases h with⟨rfl,z⟩|⟨b,B,C,D,E,z,_,_,F,_⟩
 ·simp
 ·rw[u] at z;simp only[Value.slice.injEq] at z;omega
theorem MG{xs ys:List α}{hi:Int}{k':IntKind}{E:TypeId}(hs:sub xs 0 hi=some ys)(hx:dF σ.g x=some (.ref i))(he:aX σ.d i=some (.arr T e xs))(hz:dF σ.g z=some (.v (Wr.int k') hi))
  (hU:∀w,(underlying U).run F.P w= .ok (.slice E) w) (hE:∀w,(sizeOf E).run F.P w= .ok e.n w):JO F ⟨d,.slice U x none (some z) none,ty,p,af,gd⟩ σ (.sub i ((0:Int).toNat*e.n) (hi.toNat - (0:Int).toNat)) []:=by
 intro ρ S a w K;obtain⟨D,u,A,G,B,C⟩:=Uu K (x:=x) (by simp[Op.operands]) hx he;have h:=(fX K (x:=z) (by simp[Op.operands]) hz).1;obtain⟨H,s1,I,_⟩:=gU hs;refine WB.value (w':=w) ?_ (YC.same (AZ hs C B rfl));simp[execOp,Instr.sliceAt,Instr.slice,A,h,hU,hE,Ho s1 (show hi<=(u:Int) by omega)]
theorem Ls{xs ys:List α}{lo:Int}{k:IntKind}{E:TypeId}(hs:sub xs lo (xs.length:Int)=some ys)(hx:dF σ.g x=some (.ref i))(he:aX σ.d i=some (.arr T e xs))(hy:dF σ.g y=some (.v (Wr.int k) lo))
  (hU:∀w,(underlying U).run F.P w= .ok (.slice E) w) (hE:∀w,(sizeOf E).run F.P w= .ok e.n w):JO F ⟨d,.slice U x (some y) none none,ty,p,af,gd⟩ σ (.sub i (lo.toNat*e.n) ((xs.length:Int).toNat - lo.toNat)) []:=by
 intro ρ S a w K;obtain⟨C,D,u,G,z,A⟩:=Uu K (x:=x) (by simp[Op.operands]) hx he;have h:=(fX K (x:=y) (by simp[Op.operands]) hy).1;obtain⟨B,s1,H,_⟩:=gU hs;refine WB.value (w':=w) ?_ (YC.same (AZ hs A z rfl));simp[execOp,Instr.sliceAt,Instr.slice,u,h,hU,hE,Dh B s1]
end
end Go.Sw
namespace Go.Sw
open Go Go.RowKit
section
variable {F F':XO}{σ:AS}{pb:Option Nat}{s:Slot}{d:Option Tmp}{ty:TypeId}{p:String}{af:Array Edge}{gd:Option (Nat×Bool)}{x y z:Operand}
theorem HG{P:Program}{w:World}{U:TypeId}{a c e:List Value}{n:Nat}{ag:Bool}(hA:∀w,(isAgg U).run P w= .ok ag w)(hS:∀w,(sizeOf U).run P w= .ok n w)(hl:c.length=n)(h1:ag=false->n=1):
  (part U (a++(c++e)).toArray a.length).run P w= .ok (if ag then .agg c.toArray else c.headD undef) w:=by
 unfold part;simp only[Sem.run_bind,hA,Result.andThen_ok];cases ag with
 |true=>
  simp only[l6,Sem.run_bind,hS,Result.andThen_ok,Sem.run_pure];have:(a++(c++e)).toArray.extract a.length (a.length+n)=c.toArray:=by
   subst hl;rw[List.extract_toArray];congr 1;simp[List.extract]
  rw[this]
 |false=>
  have h:=h1 rfl;rw[h] at hl;obtain⟨v,rfl⟩:=aCf.1 hl;simp
theorem En{fn:Func}{WJ:List (Nat×WA)}(hF:X4 F F')(B7:fn.results= #[])(hn:C3 WJ σ.d):XQ F' σ (zX F fn (.WU []) WJ) .normal:=
 fun a w h=>GZ hF B7 hn a w h
theorem Z.c9{u:Value}(h:u.oneCell'=true):∀S w,(Wr.c9 u h).ok () S w [u]:=fun _ _=>rfl
end
end Go.Sw
namespace Go.Sw
open Go Go.RowKit
def Hv{α:Type}(e:Wr α):Wr (List α) where
 n:=1
 agg:=false
 ok xs S w cs:=(Wr.sl e).ok xs S w cs/\∀a l c,cs=[.slice a l c]->l=c
 len h:=(Wr.sl e).len h.1
 one _:=rfl
 cell h:=(Wr.sl e).cell h.1
 mono h k:=⟨(Wr.sl e).mono h.1 k,h.2⟩
theorem MH{α:Type}{e:Wr α}{xs:List α}{S w u}(h:(Hv e).val xs S w u):(Wr.sl e).val xs S w u/\∀a l c,u= .slice a l c->l=c:=by
 obtain⟨F,⟨C,G⟩,rfl⟩:=h;refine⟨⟨F,C,rfl⟩,?_⟩;obtain⟨a,H,D,_⟩:=C;intro z A c2 B;rw[D] at B;have E:(Value.slice a xs.length H)= .slice z A c2:=B;exact G z A c2 (by rw[D,E])
section
variable {F:XO}{σ:AS}{d:Option Tmp}{ty:TypeId}{p:String}{af:Array Edge}{gd:Option (Nat×Bool)}{x y:Operand}
theorem BA{α:Type}{e:Wr α}{U E:TypeId}{len:Nat}{z:Value}{ps:List (Nat×Operand)}{zs:List α}(hU:∀w,(underlying U).run F.P w= .ok (.slice E) w)(hS:∀w,(sizeOf E).run F.P w= .ok e.n w)(hz:∀w,(zeroValue E).run F.P w= .ok z w)
  (hle:Nat.ble (len*e.n) 16777216=true) (hl:ps.length=len) (W9:zs.length=len) (hb:Nat.ble len 16777216=true) (he:D6 σ e 0 ps zs):JO F ⟨d,.buildSlice U len ps.toArray,ty,p,af,gd⟩ σ (.v (Hv e) zs) []:=by
 intro ρ S a w K;obtain⟨u,M,N⟩:=Sf (d:=d) (ty:=ty) (p:=p) (af:=af) (gd:=gd) hU hS hz hle hl he K;have A:=lH w (.cells u.toArray E);have C:Ext S (Un S ρ []) w (w.alloc (.cells u.toArray E)):=rN A fun k _ h=>by
  rcases h with h |⟨i,R,h,_⟩
  ·exact h
  ·simp[aX] at h
 refine WB.value N ⟨ρ,fun _ _=>rfl,A,?_,⟨fun _ _ h=>by simp[aX] at h,fun _ _ _ h=>by simp[aX] at h,fun _ _ _ _ _ h=>by simp[aX] at h⟩⟩;simp only[Slot.ok];have hb:=B3 hb;have D:(Wr.sl e).val zs (Un S ρ []) (w.alloc (.cells u.toArray E)) (.slice (some ⟨w.heap.size,0,none⟩) len len):=by
  refine sK.2 ⟨_,len,by rw[W9],⟨by omega,by omega⟩,.inr ⟨w.heap.size,0,u,rfl,by simp,?_,Kl w u E,Wr.WE M C⟩⟩;rintro (h |⟨i,R,h,_⟩)
  ·have:=K.low _ h;omega
  ·simp[aX] at h
 obtain⟨O,Q,B⟩:=D;refine⟨O,⟨Q,fun H I c2 L=>?_⟩,B⟩;subst L;have G:(Value.slice (some ⟨w.heap.size,0,none⟩) len len)= .slice H I c2:=B;injection G with _ e1 e2
 omega
theorem Lt{α:Type}{e:Wr α}{xs ys zs:List α}{T U:TypeId}{ti:TypeInfo}{zv:Value}(ha:app xs ys=some zs)(ZI:xs≠ [])(hx:dF σ.g x=some (.v (Hv e) xs))(hy:Src σ y e ys)
  (hU:∀w,(underlying U).run F.P w= .ok (.slice T) w) (hI:∀w,(typeInfo T).run F.P w= .ok ti w) (hS:∀w,(sizeOf T).run F.P w= .ok e.n w) (hz:ti.zero=some zv) (hzs:zv.cells.size=e.n) (X0:Nat.ble ti.bytes 4096=true):
  JO F ⟨d,.call ⟨.builtin .append,#[x,y],#[U,U]⟩,ty,p,af,gd⟩ σ (.v (Wr.sl e) zs) []:=by
 obtain⟨aa,rfl⟩:=Uq ha;have X0:=B3 X0;intro ρ S a w K;have G:ti.size=e.n:=Lp hI hS;have H:=K.slot x (by simp[Op.operands,Call.operands]) _ hx;simp only[Slot.ok] at H;obtain⟨D,ui⟩:=MH H;obtain⟨a1,an,E,⟨j0,YH⟩,h2⟩:=sK.1 D;have X:=ui _ _ _ E;subst X;obtain⟨g,Q,z,rfl,ap,aq,ab,R⟩:=h2.resolve_left ZI;have YX:=cR R;have I:∀q,q∈#[y]->q∈(Op.call ⟨.builtin .append,#[x,y],#[U,U]⟩).operands:=by
  intro q u;have N8:q=y:=by simpa using u
  subst N8;simp[Op.operands,Call.operands]
 obtain⟨U1,ad,c,h4,h5⟩:=hy ρ S a w ⟨K.low,fun q u s h=>K.slot q (I q u) s h,fun q u s h=>K.C6 q (I q u) s h⟩;have L:∀v w',(Builtin.append_ #[U,U] ty #[.slice (some ⟨g,Q,none⟩) xs.length xs.length,.slice ad ys.length c]).run F.P w= .ok v w'->(execOp a.eval ⟨d,.call ⟨.builtin .append,#[x,y],#[U,U]⟩,ty,p,af,gd⟩).run F.P w= .ok (.value v) w':=by
  intro v w' h;simp[execOp,resolve,invoke,builtin,E,h4,h]
 have M:∀{w':World},np ρ (Un S ρ []) w w' []:=⟨fun i O h=>by simp[aX] at h,fun i O b h=>by simp[aX] at h,fun i j O am b h=>by simp[aX] at h⟩
 by_cases C:ys=[]
 ·subst C;refine WB.value (L _ w (tU hU hS (YZ _))) ⟨ρ,fun _ _=>rfl,Below.refl _ _,?_,M⟩;simp only[Slot.ok,ai,Un.none];rw[E] at D;exact D
 ·obtain⟨b,ac,A,rfl,hm,V⟩:=h5.resolve_left C;have ah:0<ys.length:=pw.2 C;have db:=cR V;have ie:=grownCap_ge w (xs.length+ys.length) xs.length T
  have hr:=run_append_grow (P:=F.P) w U ty T ti zv (qY hU) (uJ hI) hz ⟨g,Q,none⟩ xs.length xs.length z (by rw[G];exact YX) ab.cell ⟨b,ac,none⟩ ys.length c A (by rw[G];exact db) hm.cell (by omega) (by omega) (growslice_fits (by omega) (by
   have:(xs.length+ys.length)*ti.bytes<=4294967296*4096:=aCu aa X0
   omega))
  obtain⟨w',B⟩:∃w',w'=w.drew.alloc (.cells (z.toArray++A.toArray++Builtin.zeroCells zv.cells (grownCap w (xs.length+ys.length) xs.length T - (xs.length+ys.length))) T (0,0)):=⟨_,rfl⟩
  have N:Below w.heap.size w w':=by rw[B];exact(Below.refl _ w).drew.alloc (YZ _) _
  refine WB.value (L _ w' (by rw[B];exact hr)) ⟨ρ,fun _ _=>rfl,N,?_,M⟩;simp only[Slot.ok];have hE:Ext S (Un S ρ []) w w':=by rw[Un.none];exact rN N fun _ _ h=>h
  refine sK.2 ⟨_,_,by rw[sM],⟨by rw[sM];exact ie,by rw[sM];omega⟩,.inr ⟨w.heap.size,0,z++A,rfl,?_,?_,?_,Wr.WE (gL R V) hE⟩⟩
  ·rw[B,World.size_alloc];exact Nat.lt_succ_self _
  ·rw[Un.none];intro h;have:=K.low _ h;omega
  ·have h6:w'.heap[w.heap.size]? =some (.cells ([]++((z++A)++(Builtin.zeroCells zv.cells (grownCap w (xs.length+ys.length) xs.length T - (xs.length+ys.length))).toList)).toArray T (0,0)):=by
    rw[B,show w.heap.size=w.drew.heap.size from rfl,heap_alloc_new];congr 2;apply Array.ext';simp
   have:=(WK.of_heap h6).sub;simpa using this
end
end Go.Sw
namespace Go.Sw
open Go Go.RowKit
section
variable {P:Program}{α β:Type}
end
end Go.Sw
namespace Go.Sw
open Go Go.RowKit
section
variable {F:XO}{ops:Array Oper}{σ σ' σA:AS}
end
end Go.Sw
namespace Go.Sw
open Go Go.RowKit
structure ZO where
 s:Slot
 nw:List (Nat×WA)
 fr:List (Nat×WA)
 rl:List Nat
 dl:List Nat
inductive XZ (F:XO) (ops:Array Oper) (OK:List (Nat×WA)->Prop):List Oper->AS->List ZO->AS->Prop
 |nil {σ:AS}:XZ F ops OK [] σ [] σ
 |cons {o:Oper} {os:List Oper} {σ σ':AS} {s:Slot} {new:List (Nat×WA)} {h:List ZO}:GK ops σ.g o true->JO F o σ s new->gQ o.dst F.N=true->
   XZ F ops OK os ⟨iR o.dst s σ.g,new++σ.d⟩ h σ'->XZ F ops OK (o::os) σ (⟨s,new,new,Ld σ.g o,[]⟩::h) σ'
 |left {o:Oper} {os:List Oper} {σ σ':AS} {h:List ZO}:GK ops σ.g o false->gQ o.dst F.N=true->XZ F ops OK os ⟨iR o.dst .top σ.g,σ.d⟩ h σ'->XZ F ops OK (o::os) σ (⟨.top,[],[],Ld σ.g o,[]⟩::h) σ'
 |pu {o:Oper} {os:List Oper} {σ σ':AS} {s:Slot} {h:List ZO}:GK ops σ.g o true->gQ o.dst F.N=true->(∀d,OK d->JO F o ⟨σ.g,d⟩ s [])->XZ F ops OK os ⟨iR o.dst s σ.g,σ.d⟩ h σ'->XZ F ops OK (o::os) σ (⟨s,[],[],[],[]⟩::h) σ'
 |mv {o:Oper} {os:List Oper} {σ σ':AS} {s:Slot} {nw fr:List (Nat×WA)} {dl:List Nat} {h:List ZO}:GK ops σ.g o true->gQ o.dst F.N=true->(∀σ2,Loc ops o σ σ2->σ2.free fr=true->JM F o σ2 ⟨iR o.dst s σ2.g,nw++iY σ2.d dl⟩)->
   XZ F ops OK os ⟨iR o.dst s σ.g,nw++iY σ.d dl⟩ h σ'->XZ F ops OK (o::os) σ (⟨s,nw,fr,Ld σ.g o,dl⟩::h) σ'
 |mvx {o:Oper} {os:List Oper} {σ σ':AS} {s:Slot} {nw fr:List (Nat×WA)} {dl ex:List Nat} {h:List ZO}:GK ops σ.g o true->gQ o.dst F.N=true->(∀σ2,Loc ops o σ σ2->(∀l∈ex,aX σ2.d l=aX σ.d l)->σ2.free fr=true->JM F o σ2 ⟨iR o.dst s σ2.g,nw++iY σ2.d dl⟩)->
   XZ F ops OK os ⟨iR o.dst s σ.g,nw++iY σ.d dl⟩ h σ'->XZ F ops OK (o::os) σ (⟨s,nw,fr,Ld σ.g o++ex,dl⟩::h) σ'
def PY(a b:ZO):Bool:=(a.nw.map (·.1)++a.dl).all fun l=>(!b.rl.contains l && !b.dl.contains l) && b.nw.all fun y=> !Nat.beq y.1 l
def HH(its:List ZO)(ms:List Nat):Bool:=
 (List.range its.length).all fun i=>(List.range its.length).all fun j=>Nat.beq i j || (ms.getD j 0).testBit i || (ms.getD i 0).testBit j ||
  (match its[i]?,its[j]? with | some a,some b=>PY a b | _,_=>true)
def HI(σ:AS)(its:List ZO)(ms:List Nat):Bool:=
 (List.range its.length).all fun j=>match its[j]? with
  |none=>true
  |some b=>b.fr.all fun x=>(σ.g.all fun y=> !y.2.YS.contains x.1) && (σ.d.all fun y=> !Nat.beq y.1 x.1 && !y.2.YS.contains x.1) &&
    (List.range its.length).all fun i=>Nat.beq i j || (ms.getD i 0).testBit j || (match its[i]? with | none=>true | some a=> !a.s.YS.contains x.1 && a.nw.all fun y=> !Nat.beq y.1 x.1 && !y.2.YS.contains x.1)
def Cc(nw:Nat->List (Nat×WA))(dl:Nat->List Nat)(d:List (Nat×WA)):Nat->(Nat->Bool)->List (Nat×WA)
 | 0,_=>d
 |m+1,L=>bif L m then nw m++iY (Cc nw dl d m L) (dl m) else Cc nw dl d m L
section
variable {nw:Nat->List (Nat×WA)}{dl:Nat->List Nat}{d:List (Nat×WA)}
theorem Eo{l:Nat}{L L':Nat->Bool}:∀{m:Nat},(∀i,i<m->(aX (nw i) l≠none\/l∈dl i)->L i=L' i)->aX (Cc nw dl d m L) l=aX (Cc nw dl d m L') l
 | 0,_=>rfl
 |m+1,h=>by
  have z:=Eo (m:=m) (fun i D=>h i (by omega));simp only[Cc];by_cases u:aX (nw m) l=none/\l∉dl m
  ·cases L m<;>cases L' m<;>simp[gM,u.1,qD,u.2,z]
  ·have C:aX (nw m) l≠none\/l∈dl m:=by
    by_cases A:aX (nw m) l=none
    ·by_cases B:l∈dl m
     ·exact .inr B
     ·exact absurd ⟨A,B⟩ u
    ·exact .inl A
   rw[h m (by omega) C];cases L' m<;>simp[gM,qD,z]
theorem HJ{l j:Nat}{en:WA}{L:Nat->Bool}(hj:aX (nw j) l=some en)(hL:L j=true):∀{m:Nat},j<m->(∀i,j<i->i<m->L i=true->aX (nw i) l=none/\l∉dl i)->aX (Cc nw dl d m L) l=some en
 | 0,h,_=>by omega
 |m+1,h,B=>by
  simp only[Cc];by_cases C:j=m
  ·subst C;rw[hL];simp[gM,hj]
  ·have z:=HJ (m:=m) hj hL (by omega) (fun i u A=>B i u (by omega));cases hLm:L m with
   |false=>simpa using z
   |true=>obtain⟨u,A⟩:=B m (by omega) (by omega) hLm;simp[gM,u,qD,A,z]
theorem Uv{l j:Nat}{L:Nat->Bool}(hj:aX (nw j) l=none)(hg:l∈dl j)(hL:L j=true):∀{m:Nat},j<m->(∀i,j<i->i<m->L i=true->aX (nw i) l=none/\l∉dl i)->aX (Cc nw dl d m L) l=none
 | 0,h,_=>by omega
 |m+1,h,B=>by
  simp only[Cc];by_cases C:j=m
  ·subst C;rw[hL];simp[gM,hj,qD,hg]
  ·have z:=Uv (m:=m) hj hg hL (by omega) (fun i u A=>B i u (by omega));cases hLm:L m with
   |false=>simpa using z
   |true=>obtain⟨u,A⟩:=B m (by omega) (by omega) hLm;simp[gM,u,qD,A,z]
theorem Na{y:Nat×WA}{i:Nat}:∀{d:List (Nat×WA)},y∈wK d i->y∈d
 | [],h=>by simp[wK] at h
 | (j,u)::r,h=>by
  simp only[wK] at h;cases hb:Nat.beq j i with
  |true=>rw[hb] at h;exact aj _ (Na h)
  |false=>
   rw[hb] at h;rcases q9.1 h with h | h
   ·rw[h];exact ao
   ·exact aj _ (Na h)
theorem Qp{y:Nat×WA}{d:List (Nat×WA)}:∀{H:List Nat},y∈iY d H->y∈d
 | [],h=>h
 |_::H,h=>Qp (H:=H) (Na h)
theorem Sq{y:Nat×WA}{L:Nat->Bool}:∀{m:Nat},y∈Cc nw dl d m L->y∈d\/∃i,i<m/\L i=true/\y∈nw i
 | 0,h=> .inl h
 |m+1,h=>by
  simp only[Cc] at h;cases hL:L m with
  |false=>
   rw[hL] at h;rcases Sq (m:=m) h with h |⟨i,z,u⟩
   ·exact .inl h
   ·exact .inr ⟨i,by omega,u⟩
  |true=>
   rw[hL] at h;rcases N9.1 h with h | h
   ·exact .inr ⟨m,by omega,hL,h⟩
   ·rcases Sq (m:=m) (Qp h) with h |⟨i,z,u⟩
    ·exact .inl h
    ·exact .inr ⟨i,by omega,u⟩
theorem Gk{L:Nat->Bool}{m:Nat}:∀{n:Nat},m<=n->(∀i,m<=i->i<n->L i=false)->Cc nw dl d n L=Cc nw dl d m L
 | 0,h,_=>by
  have:m=0:=by omega
  subst this;rfl
 |n+1,h,z=>by
  rcases N4 n m with u | u
  ·have:m=n+1:=by omega
   subst this;rfl
  ·simp only[Cc,z n u (by omega),pF];exact Gk u fun i A B=>z i A (by omega)
theorem Ji{L:Nat->Bool}:∀{m:Nat},Cc nw dl d (m+1) L=Cc (fun i=>nw (i+1)) (fun i=>dl (i+1)) (bif L 0 then nw 0++iY d (dl 0) else d) m (fun i=>L (i+1))
 | 0=>rfl
 |m+1=>by rw[Cc,Ji (m:=m)];rfl
end
section
variable {F:XO}{ops:Array Oper}{OK:List (Nat×WA)->Prop}
structure vn (F:XO) (ops:Array Oper) (OK:List (Nat×WA)->Prop) (dst:Nat->Option Tmp) (its:Nat->ZO) (σ:AS) (n:Nat) (i:Nat) (o:Oper):Prop where
 ok:gQ o.dst F.N=true
 cs:(∃ex,(its i).rl=Ld (Bi dst (fun i=>(its i).s) σ.g n (fun k=>decide (k<i))) o++ex/\
  ((GK ops (Bi dst (fun i=>(its i).s) σ.g n (fun k=>decide (k<i))) o true/\(its i).fr=(its i).nw/\(its i).dl=[]/\JO F o ⟨Bi dst (fun i=>(its i).s) σ.g n (fun k=>decide (k<i)),Cc (fun i=>(its i).nw) (fun i=>(its i).dl) σ.d n (fun k=>decide (k<i))⟩ (its i).s (its i).nw)\/
  (GK ops (Bi dst (fun i=>(its i).s) σ.g n (fun k=>decide (k<i))) o false/\(its i).s= .top/\(its i).nw=[]/\(its i).dl=[])\/
  (GK ops (Bi dst (fun i=>(its i).s) σ.g n (fun k=>decide (k<i))) o true/\
   ∀σ2,Loc ops o ⟨Bi dst (fun i=>(its i).s) σ.g n (fun k=>decide (k<i)),Cc (fun i=>(its i).nw) (fun i=>(its i).dl) σ.d n (fun k=>decide (k<i))⟩ σ2->(∀l∈ex,aX σ2.d l=aX (Cc (fun i=>(its i).nw) (fun i=>(its i).dl) σ.d n (fun k=>decide (k<i))) l)->σ2.free (its i).fr=true->JM F o σ2 ⟨iR o.dst (its i).s σ2.g,(its i).nw++iY σ2.d (its i).dl⟩)))\/
  (GK ops (Bi dst (fun i=>(its i).s) σ.g n (fun k=>decide (k<i))) o true/\(its i).nw=[]/\(its i).fr=[]/\(its i).dl=[]/\∀d,OK d->JO F o ⟨Bi dst (fun i=>(its i).s) σ.g n (fun k=>decide (k<i)),d⟩ (its i).s [])
theorem XZ.len{os:List Oper}{σ σ':AS}{h:List ZO}(hp:XZ F ops OK os σ h σ'):h.length=os.length:=by
 induction hp with
 |nil=>rfl
 |cons _ _ _ _ u=>simp[u]
 |left _ _ _ u=>simp[u]
 |pu _ _ _ _ u=>simp[u]
 |mv _ _ _ _ u=>simp[u]
 |mvx _ _ _ _ u=>simp[u]
theorem XZ.at{os:List Oper}{σ σ':AS}{h:List ZO}(hp:XZ F ops OK os σ h σ'):
  σ'.g=Bi (fun i=>(os[i]?).bind (·.dst)) (fun i=>(h.getD i ⟨.top,[],[],[],[]⟩).s) σ.g os.length (fun _=>true)/\σ'.d=Cc (fun i=>(h.getD i ⟨.top,[],[],[],[]⟩).nw) (fun i=>(h.getD i ⟨.top,[],[],[],[]⟩).dl) σ.d os.length (fun _=>true)/\
  ∀i o,os[i]? =some o->vn F ops OK (fun i=>(os[i]?).bind (·.dst)) (fun i=>h.getD i ⟨.top,[],[],[],[]⟩) σ os.length i o:=by
 have step:∀{u:Oper} {os:List Oper} {σ σ':AS} {h:List ZO} {it:ZO},
   (σ'.g=Bi (fun i=>(os[i]?).bind (·.dst)) (fun i=>(h.getD i ⟨.top,[],[],[],[]⟩).s) (iR u.dst it.s σ.g) os.length (fun _=>true)/\σ'.d=Cc (fun i=>(h.getD i ⟨.top,[],[],[],[]⟩).nw) (fun i=>(h.getD i ⟨.top,[],[],[],[]⟩).dl) (it.nw++iY σ.d it.dl) os.length (fun _=>true)/\
    ∀i o,os[i]? =some o->vn F ops OK (fun i=>(os[i]?).bind (·.dst)) (fun i=>h.getD i ⟨.top,[],[],[],[]⟩) ⟨iR u.dst it.s σ.g,it.nw++iY σ.d it.dl⟩ os.length i o)->
   vn F ops OK (fun i=>((u::os)[i]?).bind (·.dst)) (fun i=>(it::h).getD i ⟨.top,[],[],[],[]⟩) σ (u::os).length 0 u->
   (σ'.g=Bi (fun i=>((u::os)[i]?).bind (·.dst)) (fun i=>((it::h).getD i ⟨.top,[],[],[],[]⟩).s) σ.g (u::os).length (fun _=>true)/\σ'.d=Cc (fun i=>((it::h).getD i ⟨.top,[],[],[],[]⟩).nw) (fun i=>((it::h).getD i ⟨.top,[],[],[],[]⟩).dl) σ.d (u::os).length (fun _=>true)/\
    ∀i o,(u::os)[i]? =some o->vn F ops OK (fun i=>((u::os)[i]?).bind (·.dst)) (fun i=>(it::h).getD i ⟨.top,[],[],[],[]⟩) σ (u::os).length i o):=by
  rintro u os σ σ' h it ⟨M,N,O⟩ P;refine⟨by rw[M,D9,Jh];rfl,by rw[N,D9,Ji];rfl,fun i o D=>?_⟩;cases i with
  |zero=>simp at D;subst D;exact P
  |succ i=>
   have G:=O i o (by simpa using D);have H:Bi (fun i=>((u::os)[i]?).bind (·.dst)) (fun i=>((it::h).getD i ⟨.top,[],[],[],[]⟩).s) σ.g (u::os).length (fun k=>decide (k<i+1))=
     Bi (fun i=>(os[i]?).bind (·.dst)) (fun i=>(h.getD i ⟨.top,[],[],[],[]⟩).s) (iR u.dst it.s σ.g) os.length (fun k=>decide (k<i)):=by
    rw[D9,Jh];simp
   have I:Cc (fun i=>((it::h).getD i ⟨.top,[],[],[],[]⟩).nw) (fun i=>((it::h).getD i ⟨.top,[],[],[],[]⟩).dl) σ.d (u::os).length (fun k=>decide (k<i+1))=
     Cc (fun i=>(h.getD i ⟨.top,[],[],[],[]⟩).nw) (fun i=>(h.getD i ⟨.top,[],[],[],[]⟩).dl) (it.nw++iY σ.d it.dl) os.length (fun k=>decide (k<i)):=by
    rw[D9,Ji];simp
   refine⟨G.ok,?_⟩;rw[H,I];exact G.cs
 have A:∀{u:Oper} {os:List Oper} {σ:AS} {h:List ZO} {it:ZO},Bi (fun i=>((u::os)[i]?).bind (·.dst)) (fun i=>((it::h).getD i ⟨.top,[],[],[],[]⟩).s) σ.g (u::os).length (fun k=>decide (k<0))=σ.g:=by
  intro u os σ h it;rw[Gj (m:=0) (aEp _) (fun i _ _=>by simp)];rfl
 have B:∀{u:Oper} {os:List Oper} {σ:AS} {h:List ZO} {it:ZO},Cc (fun i=>((it::h).getD i ⟨.top,[],[],[],[]⟩).nw) (fun i=>((it::h).getD i ⟨.top,[],[],[],[]⟩).dl) σ.d (u::os).length (fun k=>decide (k<0))=σ.d:=by
  intro u os σ h it;rw[Gk (m:=0) (aEp _) (fun i _ _=>by simp)];rfl
 induction hp with
 |nil=>exact⟨rfl,rfl,fun i o h=>by simp at h⟩
 |cons g j d _ z=>
  rename_i o os σ σ' s new h _;refine step (it:=⟨s,new,new,Ld σ.g o,[]⟩) z ⟨d,?_⟩;rw[A,B];exact .inl ⟨[],by simp,.inl ⟨g,rfl,rfl,j⟩⟩
 |left g d _ z=>
  rename_i o os σ σ' h _;refine step (it:=⟨.top,[],[],Ld σ.g o,[]⟩) z ⟨d,?_⟩;rw[A,B];exact .inl ⟨[],by simp,.inr (.inl ⟨g,rfl,rfl,rfl⟩)⟩
 |pu g C Q hp z=>
  rename_i o os σ σ' s h;refine step (it:=⟨s,[],[],[],[]⟩) z ⟨C,?_⟩;rw[A,B];exact .inr ⟨g,rfl,rfl,rfl,Q⟩
 |mv g C E hp z=>
  rename_i o os σ σ' s nw fr dl h;refine step (it:=⟨s,nw,fr,Ld σ.g o,dl⟩) z ⟨C,?_⟩;rw[A,B];exact .inl ⟨[],by simp,.inr (.inr ⟨g,fun σ2 K _ L=>E σ2 K L⟩)⟩
 |mvx g C E hp z=>
  rename_i o os σ σ' s nw fr dl ex h;refine step (it:=⟨s,nw,fr,Ld σ.g o++ex,dl⟩) z ⟨C,?_⟩;rw[A,B];exact .inl ⟨ex,rfl,.inr (.inr ⟨g,E⟩)⟩
theorem OY{id:Nat}{ops:Array Oper}{cs:List Code}{σ σ1 σ':AS}{its:List ZO}{Q:Exit->Act->World->Prop}(OK:List (Nat×WA)->Prop)(n:Nat)(ms:List Nat)(hm:F.P.follows .mixedOrders=true)(hp:XZ F ops OK (ops.toList.take n) σ its σ1)(ht:J F ops (ops.toList.drop n) σ1 σ')
  (hn:Nat.ble n ops.size=true) (V1:Df ops=true) (yz:Yk ops ms=true) (bn:Hs ops n ms=true) (zk:HH its ms=true) (oy:HI σ its ms=true) (hOK:∀L,OK (Cc (fun i=>(its.getD i ⟨.top,[],[],[],[]⟩).nw) (fun i=>(its.getD i ⟨.top,[],[],[],[]⟩).dl) σ.d n L)) (k:W F cs σ' Q):W F (.region id ops true::cs) σ Q:=by
 intro a w hs;have hn:=B3 hn;obtain⟨l1,U4⟩:∃l1,l1=ops.toList.take n:=⟨_,rfl⟩
 obtain⟨l2,L8⟩:∃l2,l2=ops.toList.drop n:=⟨_,rfl⟩
 rw[<-U4] at hp;rw[<-L8] at ht;have N:ops.toList=l1++l2:=by rw[U4,L8];exact(ak n ops.toList).symm
 have eh:l1.length=n:=by rw[U4,E9,bo];exact rk hn
 have bw:its.length=n:=by rw[hp.len,eh]
 obtain⟨s1,d1,YN⟩:=hp.at;obtain⟨dst,uf⟩:∃dst:Nat->Option Tmp,dst=fun i=>(l1[i]?).bind (·.dst):=⟨_,rfl⟩
 obtain⟨it,ub⟩:∃it:Nat->ZO,it=fun i=>its.getD i ⟨.top,[],[],[],[]⟩:=⟨_,rfl⟩
 rw[<-uf,eh] at YN;rw[<-ub] at YN;rw[<-uf,eh] at s1;rw[eh] at d1;have s1:σ1.g=Bi dst (fun i=>(it i).s) σ.g n (fun _=>true):=by rw[s1,ub]
 have d1:σ1.d=Cc (fun i=>(it i).nw) (fun i=>(it i).dl) σ.d n (fun _=>true):=by rw[d1,ub]
 have r8:ops.size=l1.length+l2.length:=by rw[<-bo,N,sM]
 have ch:∀i:Nat,ops[i]? =(l1++l2)[i]? :=fun i=>by rw[<-N];exact(Array.getElem?_toList).symm
 have a4:∀i,i<n->l1[i]? =ops[i]? :=fun i z=>by rw[ch,aBu (by omega)]
 have j8:∀i o,i<n->ops[i]? =some o->dst i=o.dst:=fun i o z C=>by rw[uf];show (l1[i]?).bind _=_;rw[a4 i z,C];rfl
 have tv:∀i,i<n->∃o,ops[i]? =some o:=fun i z=>⟨ops[i]'(by omega),aBt (by omega)⟩
 have pc:=MF V1 yz;have bh:∀i o,i<n->ops[i]? =some o->vn F ops OK dst it σ n i o:=fun i o z C=>YN i o (by rw[a4 i z];exact C);have my:∀q,q<n->its[q]? =some (it q):=fun q hq=>by
  rw[ub];simp only[R4];rw[F5 (by omega)];rfl
 have a5:∀i j,i<n->j<n->i≠j->me ops j i\/me ops i j\/PY (it i) (it j)=true:=by
  intro i j z B O;have A:=o6.1 (o6.1 zk i (lv.2 (by omega))) j (lv.2 (by omega));simp only[aCi] at A;rcases A with ((A | A) | A) | A
  ·exact absurd (A1 A) O
  ·exact .inl (pc _ _ A)
  ·exact .inr (.inl (pc _ _ A))
  ·refine .inr (.inr ?_);rw[my i z,my j B] at A;exact A
 have an:∀{a b:ZO} {l:Nat},PY a b=true->(aX a.nw l≠none\/l∈a.dl)->l∉b.rl/\l∉b.dl/\∀y∈b.nw,y.1≠l:=by
  intro a b l h U;have N:l∈a.nw.map (·.1)++a.dl:=by
   rcases U with U | U
   ·obtain⟨e,he⟩:=Option.ne_none_iff_exists'.1 U;exact aDp _ (dj.2 ⟨_,mS he,rfl⟩)
   ·exact List.mem_append_right _ U
  have:=o6.1 h _ N;simp only[G7,re,o6] at this;refine⟨fun E=>?_,fun E=>?_,fun y hy e=>?_⟩
  ·have D:=this.1.1;simp at D;exact D E
  ·have D:=this.1.2;simp at D;exact D E
  ·have D:=this.2 y hy;rw[e] at D;simp at D
 obtain⟨σL,jw⟩:∃σL:(Nat->Bool)->AS,σL=fun L=>⟨Bi dst (fun i=>(it i).s) σ.g n L,Cc (fun i=>(it i).nw) (fun i=>(it i).dl) σ.d n L⟩:=⟨_,rfl⟩
 have a6:∀i o t,i<n->ops[i]? =some o->o.dst=some t->∀j o',j<n->ops[j]? =some o'->(j=i\/o'.dst≠some t)/\(t∈looks ops o'->me ops j i\/me ops i j):=by
  intro i o t z C I j o' B R;have A:=o6.1 bn i (lv.2 (by omega));simp only[C,XC z,I] at A;have D:=o6.1 A j (lv.2 B);simp only[R,G7,aCi,re] at D;obtain⟨G,h4⟩:=D;refine⟨G.imp (fun h=>by simpa using h) (fun h=>by simpa using h),fun E=>?_⟩;rcases h4 with (h4 | h4) | h4
  ·simp at h4;exact absurd E h4
  ·exact .inl (pc _ _ h4)
  ·exact .inr (pc _ _ h4)
 have a7:∀{i:Nat} {o:Oper},¬i<n->ops[i]? =some o->∀{j:Nat},j<i->me ops i j:=by
  intro i o z C j B;have XI:i<ops.size:=by
   rcases N4 i ops.size with h | h
   ·exact h
   ·simp[aBv h] at C
  have A:=o6.1 bn i (lv.2 XI);simp only[C,WV z] at A;exact pc _ _ (o6.1 A j (lv.2 B))
 have a8:∀i o,i<ops.size->ops[i]? =some o->∀j∈Mq o,j<i:=fun i o _ C j B=>Hr V1 C B;have bi:∀m o,n<=m->ops[m]? =some o->∀j∈Mq o,j<ops.size/\decide (j<m)=true:=by
  intro m o _ C j B;have XI:m<ops.size:=by
   rcases N4 m ops.size with h | h
   ·exact h
   ·simp[aBv h] at C
  have:=a8 m o XI C j B;exact⟨by omega,by simpa using this⟩
 have uc:∀L a w,St F (σL L) a w->(∀i,i<n->L i=true)->St F σ1 a w:=by
  intro L a w h m4;rw[jw] at h;refine St.congr (fun u=>?_) (fun l=>?_) h
  ·rw[s1];exact Em fun i z _=>by rw[m4 i z]
  ·rw[d1];exact Eo fun i z _=>by rw[m4 i z]
 have bj:∀L a w j o,GP ops L->St F (σL L) a w->j<n->ops[j]? =some o->L j=false->(∀i∈Mq o,L i=true)->∀K:Act->World->Prop,
   (∀a' w',St F (σL fun i=>i==j || L i) a' w'->K a' w')->wpOpIn F.fe 0 F.P ops (Exit.then (run F.fe F.P Q cs) Q) j K a w:=by
  intro L a w j o ug h B C ac bd K hK;have hA:=bh j o B C;have a9:∀i,me ops j i->L i=true:=by
   intro i z;cases z with
   |one R I=>rw[C] at R;cases R;exact bd _ I
   |up R I hr=>rw[C] at R;cases R;exact hr.down ug (bd _ I)
  have ab:∀i,L i=true->¬me ops i j:=fun i z E=>by rw[E.down ug z] at ac;cases ac
  have wi:∀u∈looks ops o,lk (σL L).g u=lk (Bi dst (fun i=>(it i).s) σ.g n (fun k=>decide (k<j))) u:=by
   intro u hu;rw[jw];refine Em fun i z I=>?_;obtain⟨oi,af⟩:=tv i z;rw[j8 i oi z af] at I;rcases (a6 i oi u z af I j o B C).2 hu with A | A
   ·have:=A.lt V1;rw[a9 i A];simpa using this
   ·have D:=A.lt V1;have G:L i=false:=by
     cases M:L i with
     |false=>rfl
     |true=>exact absurd A (ab i M)
    rw[G];simp;omega
  obtain⟨σ0,bC,a0,ex,av,dc⟩:∃σ0:AS,σ0.g=Bi dst (fun i=>(it i).s) σ.g n (fun k=>decide (k<j))/\Loc ops o σ0 (σL L)/\∃ex:List Nat,(∀l∈ex,aX (σL L).d l=aX σ0.d l)/\
    ((GK ops σ0.g o true/\(it j).fr=(it j).nw/\(it j).dl=[]/\JO F o σ0 (it j).s (it j).nw)\/(GK ops σ0.g o false/\(it j).s= .top/\(it j).nw=[]/\(it j).dl=[])\/
     (GK ops σ0.g o true/\∀σ2,Loc ops o σ0 σ2->(∀l∈ex,aX σ2.d l=aX σ0.d l)->σ2.free (it j).fr=true->JM F o σ2 ⟨iR o.dst (it j).s σ2.g,(it j).nw++iY σ2.d (it j).dl⟩)):=by
   rcases hA.cs with⟨ex,P3,dc⟩|⟨S,yx,ei,db,a2⟩
   ·have I:∀l∈(it j).rl,aX (σL L).d l=aX (Cc (fun i=>(it i).nw) (fun i=>(it i).dl) σ.d n (fun k=>decide (k<j))) l:=by
     intro l N;rw[jw];refine Eo fun i z U=>?_;by_cases O:i=j
     ·subst O;rw[ac];simp
     ·rcases a5 i j z B O with A | A | A
      ·have:=A.lt V1;rw[a9 i A];simpa using this
      ·have D:=A.lt V1;have G:L i=false:=by
        cases M:L i with
        |false=>rfl
        |true=>exact absurd A (ab i M)
       rw[G];simp;omega
      ·exact absurd N (an A U).1
    exact⟨⟨Bi dst (fun i=>(it i).s) σ.g n (fun k=>decide (k<j)),Cc (fun i=>(it i).nw) (fun i=>(it i).dl) σ.d n (fun k=>decide (k<j))⟩,rfl,⟨wi,fun l N=>I l (by rw[P3];exact aDp _ N)⟩,ex,fun l N=>I l (by rw[P3];exact List.mem_append_right _ N),dc⟩
   ·exact⟨⟨Bi dst (fun i=>(it i).s) σ.g n (fun k=>decide (k<j)),(σL L).d⟩,rfl,⟨wi,fun l _=>rfl⟩,[],fun l N=>rfl,.inl ⟨S,by rw[ei,yx],db,by rw[yx];exact a2 _ (by rw[jw,ub];exact hOK L)⟩⟩
  have ba:∀l,(aX (it j).nw l≠none\/l∈(it j).dl)->∀i,j<i->i<n->(i==j || L i)=true->aX (it i).nw l=none/\l∉(it i).dl:=by
   intro l N i U6 z M;have O:i≠j:=by omega
   have bk:L i=true:=by simpa[O] using M
   rcases a5 j i B z (iu O) with A | A | A
   ·exact absurd A (ab i bk)
   ·have:=A.lt V1;omega
   ·refine⟨?_,?_⟩
    ·cases hy:aX (it i).nw l with
     |none=>rfl
     |some e=>exact absurd rfl ((an (l:=l) A N).2.2 _ (mS hy))
    ·exact(an (l:=l) A N).2.1
  have lg:∀a' w',St F ⟨iR o.dst (it j).s (σL L).g,(it j).nw++iY (σL L).d (it j).dl⟩ a' w'->St F (σL fun i=>i==j || L i) a' w':=by
   intro a' w' h';rw[jw] at h' ⊢;refine St.congr (fun u=>?_) (fun l=>?_) h'
   ·show lk (Bi _ _ _ _ _) u=lk (iR _ _ (Bi _ _ _ _ _)) u;rw[Ht];split
    ·rename_i I;refine HF (by rw[j8 j o B C];exact I) (by simp) B fun i z O E=>?_;obtain⟨oi,af⟩:=tv i z;rw[j8 i oi z af] at E;rcases (a6 j o u B C I i oi z af).1 with A | A
     ·exact O A
     ·exact A E
    ·rename_i I;refine Em fun i z E=>?_;by_cases O:i=j
     ·subst O;rw[j8 i o z C] at E;exact absurd E I
     ·simp[O]
   ·show aX (Cc _ _ _ _ _) l=aX (_++iY (Cc _ _ _ _ _) _) l;rw[gM];cases U:aX (it j).nw l with
    |some en=>exact HJ U (by simp) B (ba l (.inl (by rw[U];simp)))
    |none=>
     simp only[Option.none_or];rw[qD];by_cases S:l∈(it j).dl
     ·rw[XC S];exact Uv U S (by simp) B (ba l (.inr S))
     ·rw[WV S];refine Eo fun i z E=>?_;by_cases O:i=j
      ·subst O;rcases E with E | E
       ·exact absurd U E
       ·exact absurd E S
      ·simp[O]
  have ud:AS.free (σL L) (it j).fr=true:=by
   refine o6.2 fun x U=>?_;have h0:=o6.1 oy j (lv.2 (by omega));rw[my j B] at h0;have A:=o6.1 h0 x U;simp only[G7,o6,aCi] at A;obtain⟨⟨A,D⟩,G⟩:=A;have h4:∀i,i<n->L i=true->(!(it i).s.YS.contains x.1)=true/\∀y∈(it i).nw,(!Nat.beq y.1 x.1)=true/\(!y.2.YS.contains x.1)=true:=by
    intro i z M;have V:=G i (lv.2 (by omega));rw[my i z] at V;rcases V with (V | V) | V
    ·rw[A1 V,ac] at M;cases M
    ·exact absurd (pc _ _ V) (ab i M)
    ·simp only[G7,o6] at V;exact V
   rw[jw];simp only[G7,o6];refine⟨fun y hy=>?_,fun y hy=>?_⟩
   ·rcases Sp hy with V |⟨i,z,M,e⟩
    ·exact A y V
    ·rw[e];exact(h4 i z M).1
   ·rcases Sq hy with V |⟨i,z,M,hy⟩
    ·exact D y V
    ·exact(h4 i z M).2 y hy
  have ap:∀b,GK ops σ0.g o b->Region.wanted o (yielded ops a.tmps)=b:=by
   intro b S;obtain⟨⟨ρ,E,ZW⟩,_,_⟩:=h;exact zS (PX S a0) fun t s _ ht=>ZW t s ht
  unfold wpOpIn;rw[C];rcases dc with⟨S,ei,db,a2⟩|⟨S,bu,yx,db⟩|⟨S,aq⟩
  ·simp only[ap true S,l6];obtain⟨⟨ρ,E,ZW⟩,hz,ZG⟩:=h;refine(PW a2 a0 ρ _ a w (cK E ZW _)).wpIn fun v w' hr=>hK _ _ (lg _ _ ?_);rw[ei] at ud;have:=St.put E ZW hz ZG ud hA.ok hr;rw[db];cases I:o.dst with
   |none=>rw[I] at this;exact this
   |some t=>rw[I] at this;exact this
  ·simp only[ap false S,T3,l7];refine⟨fun _ _=>trivial,hK _ _ (lg _ _ ?_)⟩;obtain⟨⟨ρ,E,ZW⟩,hz,ZG⟩:=h;have:=St.put (s:= .top) (new:=[]) (v:=undef) (dst:=o.dst) E ZW hz ZG rfl hA.ok AH;rw[bu,yx,db];cases I:o.dst with
   |none=>rw[I] at this;exact this
   |some t=>rw[I] at this;exact this
  ·simp only[ap true S,l6];exact(aq (σL L) a0 av ud a w h).wpIn fun v w' h'=>hK _ _ (lg _ _ h')
 have mz:∀(listed:Array Bool) (L:Nat->Bool),listed.size=ops.size->(∀i,i<ops.size->listed.getD i false=L i)->∀i d,i<ops.size->listed.getD i d=L i:=by
  intro listed L H T i d z;have:=T i z;rw[py] at this ⊢;rw[aBt (by omega)] at this ⊢;simpa using this
 have K6:∀(listed:Array Bool) (L:Nat->Bool),listed.size=ops.size->(∀i,i<ops.size->listed.getD i false=L i)->∀i,i∈Region.ready .any ops listed↔
   (i<ops.size/\L i=false/\∀o,ops[i]? =some o->∀j∈Mq o,j<ops.size/\L j=true):=by
  intro listed L H T i;unfold Region.ready;rw[aCj,lv];constructor
  ·rintro⟨A,D⟩;simp only[G7,re] at D;obtain⟨D,G⟩:=D;rw[mz listed L H T i true A] at D;refine⟨A,D,fun o C j B=>?_⟩;rw[C] at G;simp only[rh,aCe] at G;obtain⟨e,he,a1⟩:=aDh.1 B;have zj:e∈o.after:=by simpa using he
   have:=aD1.1 G e zj;split at a1
   ·rename_i hb;cases a1;rw[hb] at this;simp only[nm,Bool.false_or] at this;rcases N4 e.on ops.size with N | N
    ·rw[mz listed L H T _ _ N] at this;exact⟨N,this⟩
    ·rw[py,aBv (by omega)] at this;simp at this
   ·cases a1
  ·rintro⟨A,D,G⟩;refine⟨A,?_⟩;have C:ops[i]? =some ops[i]:=aBt A;simp only[G7,re,mz listed L H T i true A,D,aEa,C,rh,aCe];refine aD1.2 fun e he=>?_;cases hb:Region.binds .any e with
   |false=>rfl
   |true=>
    have:=G _ C e.on (aDh.2 ⟨e,by simpa using he,by simp[hb]⟩);rw[mz listed L H T _ _ this.1,this.2];rfl
 have n9:∀(listed:Array Bool) (L:Nat->Bool) (j:Nat),listed.size=ops.size->j<ops.size->(∀i,i<ops.size->listed.getD i false=L i)->∀i,i<ops.size->(listed.setIfInBounds j true).getD i false=(i==j || L i):=by
  intro listed L j H B T i z;by_cases O:i=j
  ·subst O;simp only[py,aDi];simp[H,z]
  ·rw[getD_set_ne false (iu O),T i z];simp[O]
 have hB:∀aa m (listed:Array Bool) a w,listed.size=ops.size->(∀i,i<ops.size->listed.getD i false=decide (i<m))->GP ops (fun i=>decide (i<m))->n<=m->m+aa=ops.size->
   wpListIn F.fe 0 F.P ops (Exit.then (run F.fe F.P Q cs) Q) (ops.toList.drop m) a w->wpAnyIn F.fe 0 F.P .any ops (Exit.then (run F.fe F.P Q cs) Q) aa listed a w:=by
  intro aa
  induction aa with
  |zero=>
   intro m listed a w H ad _ be bt X;refine⟨aD8.2 fun i z=>?_,?_⟩
   ·obtain⟨A,D,_⟩:=(K6 listed _ H ad i).1 z;have:i<m:=by omega
    simp[this] at D
   ·rw[aD0 (by rw[bo];omega)] at X;exact X
  |succ aa ih=>
   intro m listed a w H ad ug be bt X;have zb:m<ops.size:=by omega
   have bl:ops[m]? =some ops[m]:=aBt zb;have bm:∀i∈Region.ready .any ops listed,i=m:=by
    intro i z;obtain⟨A,D,G⟩:=(K6 listed _ H ad i).1 z;have bx:m<=i:=by simpa using D
    rcases N4 m i with XI | ie
    ·exfalso;have C:ops[i]? =some ops[i]:=aBt A;have YL:=a7 (by omega) C XI;cases YL with
     |one R B=>rw[C] at R;cases R;have:=(G _ C _ B).2;simp at this
     |up R B a3=>
      rw[C] at R;cases R;have aq:=(G _ C _ B).2;have:=a3.down ug aq;simp at this
    ·omega
   have Z2:ops.toList.drop m=ops[m]::ops.toList.drop (m+1):=by
    rw[aCy (by rw[bo];exact zb)];simp
   rw[Z2] at X;refine⟨fun hr=>?_,fun i z=>?_⟩
   ·exfalso;have qq:m∉Region.ready .any ops listed:=by rw[hr];simp
    refine qq ((K6 listed _ H ad m).2 ⟨zb,by simp,fun o C j B=>?_⟩);exact bi m o be C j B
   ·have:=bm i z;subst this;obtain⟨_,_,G⟩:=(K6 listed _ H ad i).1 z;have bs:GP ops (fun k=>decide (k<i+1)):=by
     intro k o hk C j B;have hk:k<i+1:=by simpa using hk
     rcases N4 k i with h | h
     ·have:=ug k o (by simpa using h) C j B;have:j<i:=by simpa using this
      simp;omega
     ·have:k=i:=by omega
      subst this;have:=(G o C j B).2;have:j<k:=by simpa using this
      simp;omega
    have bb:∀a w,wpListIn F.fe 0 F.P ops (Exit.then (run F.fe F.P Q cs) Q) (ops.toList.drop (i+1)) a w->wpAnyIn F.fe 0 F.P .any ops (Exit.then (run F.fe F.P Q cs) Q) aa (listed.setIfInBounds i true) a w:=by
     intro a w X;refine ih (i+1) _ a w (by simpa using H) (fun j B=>?_) bs (by omega) (by omega) X;rw[n9 listed _ i H zb ad j B];by_cases U6:j=i
     ·subst U6;simp
     ·have:(j<i+1)↔j<i:=by omega
      simp[U6,this]
    unfold wpOpIn;rw[bl];unfold wpListIn at X;split at X
    ·rename_i tc;simp only[tc,l6];exact Oper.wpIn_mono bb X
    ·rename_i tc;simp only[tc];exact⟨X.1,bb _ _ X.2⟩
 have hA:∀aa (listed:Array Bool) (L:Nat->Bool) a w,listed.size=ops.size->(∀i,i<ops.size->listed.getD i false=L i)->GP ops L->(∀i,L i=true->i<n)->((List.range ops.size).filter fun i=>L i).length+aa=ops.size->
   St F (σL L) a w->wpAnyIn F.fe 0 F.P .any ops (Exit.then (run F.fe F.P Q cs) Q) aa listed a w:=by
  intro aa
  induction aa with
  |zero=>
   intro listed L a w H T ug am bf h;have m4:∀i,i<ops.size->L i=true:=by
    have E:((List.range ops.size).filter fun i=>L i).length=(List.range ops.size).length:=by simpa using bf
    have:=List.length_filter_eq_length_iff.1 E;exact fun i z=>this i (lv.2 z)
   have bA:ops.size=n:=by
    rcases N4 n ops.size with h | h
    ·have:=am n (m4 n h);omega
    ·omega
   have L8:l2=[]:=iw (by omega);refine⟨aD8.2 fun i z=>?_,?_⟩
   ·obtain⟨A,D,_⟩:=(K6 listed _ H T i).1 z;rw[m4 i A] at D;cases D
   ·have kf:=uc L a w h fun i z=>m4 i (by omega);have:=ht (Exit.then (run F.fe F.P Q cs) Q) [] a w kf (fun a' w' h'=>wpListIn_nil (k a' w' h'));rw[L8] at this;exact this
  |succ aa ih=>
   intro listed L a w H T ug am bf h;by_cases m4:∀i,i<n->L i=true
   ·
    have kf:=uc L a w h m4;have X:=ht (Exit.then (run F.fe F.P Q cs) Q) [] a w kf (fun a' w' h'=>wpListIn_nil (k a' w' h'));have au:L=fun i=>decide (i<n):=by
     funext i;cases M:L i with
     |true=>simp[am i M]
     |false=>
      rcases N4 i n with h | h
      ·rw[m4 i h] at M;cases M
      ·simp;omega
    have bB:((List.range ops.size).filter fun i=>L i).length=n:=by
     rw[au];have:ops.size=n+(ops.size - n):=by omega
     rw[this,List.range_add,aB4];rw[aDa.2 (by intro i z;simpa using lv.1 z),List.filter_eq_nil_iff.2 (by intro i z;simp at z ⊢;omega)];simp
    refine hB (aa+1) n listed a w H (fun i z=>by rw[T i z,au]) (by rw[<-au];exact ug) (YZ _) (by omega) ?_;have:ops.toList.drop n=l2:=by rw[N,<-eh];simp
    rw[this];simpa using X
   ·refine⟨fun hr=>?_,fun i z=>?_⟩
    ·exfalso;have av:∃i,i<n/\L i=false:=by
      refine Classical.byContradiction fun ab=>m4 fun i z=>?_;cases M:L i with
      |true=>rfl
      |false=>exact absurd ⟨i,z,M⟩ ab
     obtain⟨i,⟨z,M⟩,G2⟩:∃i,(i<n/\L i=false)/\∀j,j<i->L j=true:=by
      obtain⟨i,z⟩:=av
      induction i using Nat.strongRecOn with
      |_ i bv=>
       by_cases B:∃j,j<i/\L j=false
       ·obtain⟨j,A,D⟩:=B;exact bv j A ⟨by omega,D⟩
       ·refine⟨i,z,fun j km=>?_⟩;cases ac:L j with
        |true=>rfl
        |false=>exact absurd ⟨j,km,ac⟩ B
     have qq:i∉Region.ready .any ops listed:=by rw[hr];simp
     refine qq ((K6 listed _ H T i).2 ⟨by omega,M,fun o C j B=>?_⟩);have:=a8 i o (by omega) C j B;exact⟨by omega,G2 j this⟩
    ·obtain⟨A,D,G⟩:=(K6 listed _ H T i).1 z;have C:ops[i]? =some ops[i]:=aBt A;have B9:i<n:=by
      refine Classical.byContradiction fun ie=>m4 fun j B=>?_;have YL:=a7 ie C (j:=j) (by omega);cases YL with
      |one R B=>rw[C] at R;cases R;exact(G _ C _ B).2
      |up R B a3=>rw[C] at R;cases R;exact a3.down ug (G _ C _ B).2
     refine bj L a w i _ ug h B9 C D (fun j B=>(G _ C j B).2) _ fun a' w' h'=>?_;refine ih _ _ a' w' (by simpa using H) (n9 listed L i H A T) ?_ ?_ ?_ h'
     ·intro q o hq bg j B;by_cases ah:q=i
      ·subst ah;simp[(G o bg j B).2]
      ·have:L q=true:=by simpa[ah] using hq
       simp[ug q o this bg j B]
     ·intro q hq;by_cases ah:q=i
      ·omega
      ·exact am q (by simpa[ah] using hq)
     ·have:((List.range ops.size).filter fun q=>q==i || L q).length=((List.range ops.size).filter fun q=>L q).length+1:=CX ops.size i L A D;omega
 refine wpIn_region_any hm ?_;refine hA ops.size _ (fun _=>false) a _ (by simp) (fun i z=>by rw[py,Array.getElem?_replicate,XC z];rfl) (fun _ _ h=>by cases h) (fun _ h=>by cases h) (by rw[List.filter_eq_nil_iff.2 (fun _ _ h=>by cases h)];simp) ?_;obtain⟨⟨ρ,E,ZW⟩,hz,ZG⟩:=hs;have hb:Below w.heap.size w { w with drawn:=w.drawn+1 }:=(Below.refl _ _).drew;obtain⟨R0,hE⟩:=E.below hb;have e0:σL (fun _=>false)=σ:=by
  rw[jw];show (⟨Bi _ _ _ _ _,Cc _ _ _ _ _⟩:AS)=σ;rw[Gj (m:=0) (aEp _) (fun _ _ _=>rfl),Gk (m:=0) (aEp _) (fun _ _ _=>rfl)];rfl
 rw[e0];exact⟨⟨ρ,R0,fun t s mr=>Slot.VX s _ (ZW t s mr) hE (fun _ _=>rfl)⟩,hz,ZG⟩
section
variable {os:List Oper}{σ σ':AS}{its:List ZO}{s s0:Slot}{d:Option Tmp}{pb:Option Nat}{ty:TypeId}{p:String}{af:Array Edge}{gd:Option (Nat×Bool)}{x y:Operand}
theorem XZ.store{T U:TypeId}{l:List Slot}{i off n:Nat}(g:GK ops σ.g ⟨none,.store U x y,ty,p,af,gd⟩ true)(hx:dF σ.g x=some (.ptr i off))(he:aX σ.d i=some (.box T l pb))(ho:nM l off=some s0)(hy:dF σ.g y=some s)(hp:s.plain=true)(r8:Nat.beq s.sz n=true)(K5:Nat.beq s0.sz n=true)
  (hS:∀w,(sizeOf U).run F.P w= .ok n w) (k:XZ F ops OK os ⟨σ.g,(i,.box T (nX l off s) pb)::σ.d⟩ its σ'):
  XZ F ops OK (⟨none,.store U x y,ty,p,af,gd⟩::os) σ (⟨.top,[(i,.box T (nX l off s) pb)],[],Ld σ.g ⟨none,.store U x y,ty,p,af,gd⟩,[]⟩::its) σ':=
 .mv g rfl (fun σ2 h _=>Up ((h.ev (by simp[Op.operands])).trans hx) ((h.C6 (x:=x) (by simp[Op.operands]) hx (by simp[Slot.YS])).trans he) ho ((h.ev (by simp[Op.operands])).trans hy) hp r8 K5 hS) k
theorem XZ.storeAll{α:Type}{e:Wr α}{z:α}{T U:TypeId}{l l':List Slot}{i:Nat}(g:GK ops σ.g ⟨none,.store U x y,ty,p,af,gd⟩ true)(hx:dF σ.g x=some (.ptr i 0))(he:aX σ.d i=some (.box T l pb))(hl:Nat.beq (l.map Slot.sz).sum e.n=true)(hy:dF σ.g y=some (.v e z))(W9:N5 l' e z)
  (hS:∀w,(sizeOf U).run F.P w= .ok e.n w) (k:XZ F ops OK os ⟨σ.g,(i,.box T l' pb)::σ.d⟩ its σ'):
  XZ F ops OK (⟨none,.store U x y,ty,p,af,gd⟩::os) σ (⟨.top,[(i,.box T l' pb)],[],Ld σ.g ⟨none,.store U x y,ty,p,af,gd⟩,[]⟩::its) σ':=
 .mv g rfl (fun σ2 h _=>bT ((h.ev (by simp[Op.operands])).trans hx) ((h.C6 (x:=x) (by simp[Op.operands]) hx (by simp[Slot.YS])).trans he) hl ((h.ev (by simp[Op.operands])).trans hy) W9 hS) k
theorem XZ.C7{T U:TypeId}{l l':List Slot}{i n:Nat}(g:GK ops σ.g ⟨none,.store U x y,ty,p,af,gd⟩ true)(hx:dF σ.g x=some (.ptr i 0))(he:aX σ.d i=some (.box T l pb))(hl:(l.map Slot.sz).sum=n)(hy:dF σ.g y=some (.agg l'))(W9:(l'.map Slot.sz).sum=n)(hnt:l'.all Slot.plain=true)
  (hS:∀w,(sizeOf U).run F.P w= .ok n w) (k:XZ F ops OK os ⟨σ.g,(i,.box T l' pb)::σ.d⟩ its σ'):
  XZ F ops OK (⟨none,.store U x y,ty,p,af,gd⟩::os) σ (⟨.top,[(i,.box T l' pb)],[],Ld σ.g ⟨none,.store U x y,ty,p,af,gd⟩,[]⟩::its) σ':=
 .mv g rfl (fun σ2 h _=>Kj ((h.ev (by simp[Op.operands])).trans hx) ((h.C6 (x:=x) (by simp[Op.operands]) hx (by simp[Slot.YS])).trans he) hl ((h.ev (by simp[Op.operands])).trans hy) W9 hnt hS) k
theorem Src.loc{α:Type}{e:Wr α}{ys:List α}{o:Oper}{σ2:AS}(h:Src σ y e ys)(hL:Loc ops o σ σ2)(hm:y∈o.op.operands):Src σ2 y e ys:=fun ρ S a w K=>
 h ρ S a w ⟨K.low,fun x u s z=>K.slot x u s (by
  have:x=y:=by simpa using u
  subst this;rw[hL.ev hm];exact z),fun x u s z i A B C=>K.C6 x u s (by
   have:x=y:=by simpa using u
   subst this;rw[hL.ev hm];exact z) i A B (by
    have:x=y:=by simpa using u
    subst this;rw[hL.C6 hm z A];exact C)⟩
theorem XZ.append{α:Type}{e:Wr α}{xs ys zs:List α}{T U:TypeId}{ti:TypeInfo}{z:Value}{i:Nat}(g:GK ops σ.g ⟨d,.call ⟨.builtin .append,#[x,y],#[U,U]⟩,ty,p,af,gd⟩ true)(j:Nat)(ha:app xs ys=some zs)(hx:dF σ.g x=some (.ref i))(he:aX σ.d i=some (.arr T e xs))(hy:Src σ y e ys)
  (hU:∀w,(underlying U).run F.P w= .ok (.slice T) w) (hI:∀w,(typeInfo T).run F.P w= .ok ti w) (hS:∀w,(sizeOf T).run F.P w= .ok e.n w) (hz:ti.zero=some z) (hzs:z.cells.size=e.n) (X0:Nat.ble ti.bytes 4096=true)
  (_:σ.free [(j,.arr T e zs)]=true) (hd:gQ d F.N=true) (k:XZ F ops OK os ⟨iR d (.ref j) σ.g,(j,.arr T e zs)::wK σ.d i⟩ its σ'):
  XZ F ops OK (⟨d,.call ⟨.builtin .append,#[x,y],#[U,U]⟩,ty,p,af,gd⟩::os) σ (⟨.ref j,[(j,.arr T e zs)],[(j,.arr T e zs)],Ld σ.g ⟨d,.call ⟨.builtin .append,#[x,y],#[U,U]⟩,ty,p,af,gd⟩,[i]⟩::its) σ':=
 .mv (nw:=[(j,.arr T e zs)]) (dl:=[i]) g hd (fun σ2 h u=>bU j ha ((h.ev (by simp[Op.operands,Call.operands])).trans hx) ((h.C6 (x:=x) (by simp[Op.operands,Call.operands]) hx (by simp[Slot.YS])).trans he) (hy.loc h (by simp[Op.operands,Call.operands])) hU hI hS hz hzs X0 u hd) k
end
end
end Go.Sw
namespace Go.Sw
open Go Go.RowKit
section
variable {F:XO}{σ:AS}{pb:Option Nat}{s:Slot}{d:Option Tmp}{ty:TypeId}{p:String}{af:Array Edge}{gd:Option (Nat×Bool)}{x y z:Operand}
theorem YC.cv{ρ:Nat->LV}{S:Nat->Prop}{w w':World}{v:Value}{s s':Slot}{new K4:List (Nat×WA)}(l8:∀k,S k->k<w.heap.size)(h:YC ρ S w s new v w')
  (ZV:∀F:XO,Sub F ⟨[(0,s)],new⟩ ⟨[(0,s')],K4⟩) (YX:lB s' K4=true):YC ρ S w s' K4 v w':=by
 obtain⟨ρ',h1,C,h3,E⟩:=h;let H:XO:=⟨default,1,S,w,fun _=>False,none,[]⟩
 have R:Core H new ρ' w':=⟨l8,C.size,fun k V _=>C.block k V,C.os,C.tape,C.output,E.own,fun i u b B z=>⟨.inl (E.fresh i u b B z).1,(E.fresh i u b B z).2⟩,E.inj,
  fun i u b B z X=>by have:=l8 b X;have:=(E.fresh i u b B z).1;omega⟩
 let a:Act:=⟨#[v],[]⟩
 have T:St H ⟨[(0,s)],new⟩ a w':=⟨⟨ρ',R,fun t s1 D=>by
  simp only[lk] at D;cases z:Nat.beq 0 t with
  |true=>have:=A1 z;subst this;simp at D;subst D;exact h3
  |false=>rw[z] at D;cases D⟩,rfl,rfl⟩
 obtain⟨⟨ρ2,K,I⟩,_,_⟩:=ZV H a w' T;have I:s'.ok ρ2 (Un S ρ2 K4) w' v:=I 0 s' rfl;simp only[lB,G7,o6] at YX;let ρ3:Nat->LV:=fun i=>if (aX K4 i).isSome then ρ2 i else ρ i
 have A:∀i u,aX K4 i=some u->ρ3 i=ρ2 i:=fun i u h=>XC (by rw[h];rfl);have M:∀i,(aX K4 i).isSome=true->ρ3 i=ρ2 i:=fun i h=>XC h;have U:Un S ρ3 K4=Un S ρ2 K4:=by
  funext k;apply propext;constructor
  ·rintro (h |⟨i,u,G,L⟩)
   ·exact .inl h
   ·exact .inr ⟨i,u,G,by rw[<-A i u G];exact L⟩
  ·rintro (h |⟨i,u,G,L⟩)
   ·exact .inl h
   ·exact .inr ⟨i,u,G,by rw[A i u G];exact L⟩
 have N:Ext (Un S ρ2 K4) (Un S ρ3 K4) w' w':=⟨YZ _,fun k _ h=>⟨rfl,by rw[U];exact h⟩⟩
 refine⟨ρ3,fun i h=>WV (by rw[h];simp),C,Slot.VX s' v I N (fun i B=>congrArg LV.v (M i (YX.1 i B))),⟨fun i u h=>?_,fun i u b h z=>?_,fun i j u O b h P z Q=>?_⟩⟩
 ·rw[A i u h];exact WA.VX (K.own i u h) N (fun q hq=>congrArg LV.v (M q (YX.2 _ (mS h) q hq))) (fun _ _=>rfl)
 ·rw[A i u h] at z;have:=K.fresh i u b h z;exact⟨this.1.resolve_right (fun h=>h),this.2⟩
 ·rw[A i u h] at z;rw[A j O P] at Q;exact K.inj i j u O b h P z Q
theorem Qq{o:Oper}{s s':Slot}{new K4:List (Nat×WA)}(h:JO F o σ s new)(ZV:∀F:XO,Sub F ⟨[(0,s)],new⟩ ⟨[(0,s')],K4⟩)(YX:lB s' K4=true):JO F o σ s' K4:=by
 intro ρ S a w K;exact(h ρ S a w K).mono fun v z u=>u.cv K.low ZV YX
end
end Go.Sw
namespace Go.Sw
open Go Go.RowKit
section
variable {F:XO}{σ:AS}{pb:Option Nat}{s:Slot}{d:Option Tmp}{ty:TypeId}{p:String}{af:Array Edge}{gd:Option (Nat×Bool)}{x y z:Operand}{α:Type}{e:Wr α}{T U:TypeId}{i:Nat}
theorem j4.sub{xs ys:List α}{lo hi:Int}{S:Nat->Prop}{w:World}{v:Value}{a:Option Addr}{cap:Nat}(hs:Sw.sub xs lo hi=some ys)(h:j4 T e xs S w v)(hv:v= .slice a xs.length cap):
  j4 T e ys S w (.slice (if cap=lo.toNat then a else a.map (·.add (lo.toNat*e.n))) (hi.toNat - lo.toNat) (cap - lo.toNat)):=by
 obtain⟨U,V,F,rfl⟩:=gU hs;rcases h with⟨rfl,rfl⟩|⟨b,z,A,u,B,rfl,G,H,X,h7,h8⟩
 ·simp only[Value.slice.injEq,X3] at hv;obtain⟨rfl,_,rfl⟩:=hv;have:lo.toNat=0:=by simp at F;omega
  have:hi.toNat=0:=by simp at F;omega
  refine .inl ⟨by simp,?_⟩;simp[*]
 ·simp only[Value.slice.injEq,aEa] at hv;obtain⟨rfl,rfl⟩:=hv;have D:=cR H;obtain⟨l,O⟩:∃l,l=lo.toNat:=⟨_,rfl⟩
  obtain⟨m,P⟩:∃m,m=hi.toNat:=⟨_,rfl⟩
  rw[<-O,<-P];have I:l<=m:=by omega
  have K:m<=xs.length:=by omega
  have L:l*e.n<=m*e.n:=vi _ I;have Q:m*e.n<=xs.length*e.n:=vi _ K;have E:((xs.take m).drop l).length=m - l:=by rw[V8,E9];omega
  by_cases C:z=l
  ·rw[XC C];have R:m - l=0:=by omega
   refine .inr ⟨b,z - l,A,[],u++B,by rw[E],by simpa using G,?_,by omega,?_,by omega⟩
   ·have:(xs.take m).drop l=[]:=iw (by omega);rw[this];rfl
   ·rw[C,Nat.sub_self];simp
  ·rw[WV C];refine .inr ⟨b,z - l,A++u.take (l*e.n),(u.take (m*e.n)).drop (l*e.n),u.drop (m*e.n)++B,?_,?_,wB _ (sV _ H),by omega,?_,by omega⟩
   ·rw[E];simp only[rh,Addr.add_lit,sM,E9,D];rw[rk (by omega)]
   ·rw[G];have:A++(u++B)=A++u.take (l*e.n)++((u.take (m*e.n)).drop (l*e.n)++(u.drop (m*e.n)++B)):=by
     have M:u=u.take (l*e.n)++((u.take (m*e.n)).drop (l*e.n)++u.drop (m*e.n)):=by
      have N:u.take (l*e.n)=(u.take (m*e.n)).take (l*e.n):=by rw[List.take_take,rk L]
      rw[<-E0,N,ak,ak]
     conv=>lhs;rw[M]
     simp only[E0]
    rw[this]
   ·simp only[sM,V8,E9,D];rw[rk (by omega)];have:(z - l)*e.n+l*e.n=z*e.n:=by rw[<-L6];congr 1;omega
    omega
theorem BB{ρ:Nat->LV}{a:Act}{w:World}{xs ys:List α}{lo hi:Int}{j:Nat}{ad:Option Addr}{cap:Nat}(hc:Core F σ.d ρ w)(hs:∀t s,lk σ.g t=some s->s.ok ρ (Un F.S0 ρ σ.d) w (a.tmps.getD t undef))(hz:a.tmps.size=F.N)(ZG:a.defers=F.df)
  (ZV:Sw.sub xs lo hi=some ys) (he:aX σ.d i=some (.arr T e xs)) (hv:(ρ i).v= .slice ad xs.length cap) (hf:σ.free [(j,.arr T e ys)]=true) (hd:gQ d F.N=true):
  St F ⟨iR d (.ref j) σ.g,(j,.arr T e ys)::wK σ.d i⟩ (a.put d (.slice (if cap=lo.toNat then ad else ad.map (·.add (lo.toNat*e.n))) (hi.toNat - lo.toNat) (cap - lo.toNat))) w:=by
 have A:j4 T e xs (Un F.S0 ρ σ.d) w (ρ i).v:=hc.own i _ he;have E:=A.sub ZV hv;refine AO (u:= .of _) hc hs hz ZG he hf hd (m9.refl _ _) (.inl ⟨_,_,_,rfl⟩) rfl (fun b G=>?_) (fun K ρ' H=>E.mono H fun _ _=>rfl);have B:qT (ρ i) b:=by
  left;rw[hv];have z:=pI.1 G;cases ad with
  |none=>simp[ZE] at z
  |some q=>
   by_cases C:cap=lo.toNat
   ·rw[XC C] at z;exact z
   ·rw[WV C] at z;simp only[rh,ZE,B1] at z ⊢;rw[<-z];have D:q.spot=none:=by
     rcases A with⟨_,h⟩|⟨I,O,P,Q,R,h,_⟩
     ·rw[hv] at h;cases h
     ·rw[hv] at h;simp only[Value.slice.injEq,B1] at h;rw[h.1]
    obtain⟨I,L,M⟩:=q;simp only at D;subst D;rw[Addr.add_lit]
 exact⟨.inl B,(hc.fresh i _ b he B).2⟩
theorem MI{xs ys:List α}{hi:Int}{k':IntKind}{E:TypeId}(j:Nat)(hs:Sw.sub xs 0 hi=some ys)(hx:dF σ.g x=some (.ref i))(he:aX σ.d i=some (.arr T e xs))(hz:dF σ.g z=some (.v (Wr.int k') hi))
  (hU:∀w,(underlying U).run F.P w= .ok (.slice E) w) (hE:∀w,(sizeOf E).run F.P w= .ok e.n w) (hf:σ.free [(j,.arr T e ys)]=true) (hd:gQ d F.N=true):JM F ⟨d,.slice U x none (some z) none,ty,p,af,gd⟩ σ ⟨iR d (.ref j) σ.g,(j,.arr T e ys)::wK σ.d i⟩:=by
 rintro a w ⟨⟨ρ,h,u⟩,G,H⟩;have K:=cK h u (Op.slice U x none (some z) none).operands;obtain⟨I,B,C,L,D,M⟩:=Uu K (x:=x) (by simp[Op.operands]) hx he;have A:=(fX K (x:=z) (by simp[Op.operands]) hz).1;obtain⟨O,s1,Q,_⟩:=gU hs;refine WB.value (w':=w) ?_ (BB h u G H hs he D hf hd);simp[execOp,Instr.sliceAt,Instr.slice,C,A,hU,hE,Ho s1 (show hi<=(B:Int) by omega)]
theorem MJ{xs ys:List α}{lo:Int}{k:IntKind}{E:TypeId}(j:Nat)(hs:Sw.sub xs lo (xs.length:Int)=some ys)(hx:dF σ.g x=some (.ref i))(he:aX σ.d i=some (.arr T e xs))(hy:dF σ.g y=some (.v (Wr.int k) lo))
  (hU:∀w,(underlying U).run F.P w= .ok (.slice E) w) (hE:∀w,(sizeOf E).run F.P w= .ok e.n w) (hf:σ.free [(j,.arr T e ys)]=true) (hd:gQ d F.N=true):JM F ⟨d,.slice U x (some y) none none,ty,p,af,gd⟩ σ ⟨iR d (.ref j) σ.g,(j,.arr T e ys)::wK σ.d i⟩:=by
 rintro a w ⟨⟨ρ,h,u⟩,D,G⟩;have K:=cK h u (Op.slice U x (some y) none none).operands;obtain⟨H,I,A,L,B,M⟩:=Uu K (x:=x) (by simp[Op.operands]) hx he;have z:=(fX K (x:=y) (by simp[Op.operands]) hy).1;obtain⟨C,s1,O,_⟩:=gU hs;refine WB.value (w':=w) ?_ (BB h u D G hs he B hf hd);simp[execOp,Instr.sliceAt,Instr.slice,A,z,hU,hE,Dh C s1]
theorem Er{zc:Array Value}{zv:α}{S:Nat->Prop}{w:World}(h:e.ok zv S w zc.toList):∀(n:Nat) (L:List Value),L.length=n*e.n->(∀i,i<n*e.n->L[i]? =some zc[i % zc.size]!)->e.ZK (List.replicate n zv) S w L
 | 0,L,u,_=>by simp at u;subst u;rfl
 |n+1,L,u,z=>by
  have B:zc.size=e.n:=by have:=e.len h;simpa using this
  rw[L6,qz] at u z;have C:L.take e.n=zc.toList:=by
   apply aCc;intro i;by_cases A:i<e.n
   ·rw[List.getElem?_take_of_lt A,z i (by omega),R5 (by omega)];rw[getElem!_pos zc i (by omega)];simp[show i<zc.size by omega]
   ·rw[al (by rw[E9];omega),al (by simp;omega)]
  refine⟨L.take e.n,L.drop e.n,(ak _ _).symm,by rw[C];exact h,Er h n _ (by rw[V8];omega) fun i A=>?_⟩;rw[List.getElem?_drop,z _ (by omega),B,Nat.add_mod_left]
theorem Bj{zc:Array Value}{n i:Nat}(h:i<n*zc.size):(Builtin.zeroCells zc n).toList[i]? =some zc[i % zc.size]! :=by
 simp[Builtin.zeroCells,h]
theorem Yl{xs ys:List α}{lo:Int}{z0:Value}{zv:α}{E:TypeId}(hs:Sw.sub xs lo (xs.length:Int)=some ys)(hx:dF σ.g x=some (.sub i (lo.toNat*e.n) ((xs.length:Int).toNat - lo.toNat)))(he:aX σ.d i=some (.arr T e xs))
  (hU:∀w,(underlying U).run F.P w= .ok (.slice E) w) (hZ:∀w,(zeroValue E).run F.P w= .ok z0 w) (hz:∀S w,e.ok zv S w z0.cells.toList):
  JM F ⟨none,.call ⟨.builtin .clear,#[x],#[U]⟩,ty,p,af,gd⟩ σ ⟨σ.g,(i,.arr T e (xs.take lo.toNat++List.replicate (xs.length - lo.toNat) zv))::σ.d⟩:=by
 rintro a w ⟨⟨ρ,Q,R⟩,r8,ZG⟩;have K:=cK Q R (Op.call ⟨.builtin .clear,#[x],#[U]⟩).operands;have X:=K.slot x (by simp[Op.operands,Call.operands]) _ hx;simp only[Slot.ok] at X;obtain⟨_,c,o,g1,N,H⟩:=X;have I2:j4 T e xs (Un F.S0 ρ σ.d) w (ρ i).v:=(K.C6 x (by simp[Op.operands,Call.operands]) _ hx i (by simp[Slot.YS]) _ he).1;obtain⟨s0,s1,_,_⟩:=gU hs;obtain⟨l,hl⟩:∃l,l=lo.toNat:=⟨_,rfl⟩
 simp only[p6] at g1 N H;rw[<-hl] at g1 N H ⊢;have ad:l<=xs.length:=by omega
 have done:∀w',(execOp a.eval ⟨none,.call ⟨.builtin .clear,#[x],#[U]⟩,ty,p,af,gd⟩).run F.P w= .ok (.value (.tuple #[])) w'->
   (∃b,qT (ρ i) b/\bp b w w'/\(Ext (Un F.S0 ρ σ.d) (Un F.S0 ρ σ.d) w w'->(WA.arr T e (xs.take l++List.replicate (xs.length - l) zv)).ok ρ (Un F.S0 ρ σ.d) w' (ρ i)))\/(w'=w/\xs.take l++List.replicate (xs.length - l) zv=xs)->
   WB F.P ⟨none,.call ⟨.builtin .clear,#[x],#[U]⟩,ty,p,af,gd⟩ a w fun v w'=>St F ⟨σ.g,(i,.arr T e (xs.take l++List.replicate (xs.length - l) zv))::σ.d⟩ (a.put none v) w':=by
  intro w' hr h;refine WB.value hr ?_;rcases h with⟨b,h1,V,D⟩|⟨rfl,V⟩
  ·obtain⟨q1,q2⟩:=Q.upd he h1 V D;exact⟨⟨ρ,q1,fun t s L=>Slot.VX s _ (R t s L) q2 (fun _ _=>rfl)⟩,r8,ZG⟩
  ·rw[V];refine St.congr (σ:=σ) (fun _=>rfl) (fun q=>?_) ⟨⟨ρ,Q,R⟩,r8,ZG⟩;rw[cN];split
   ·rename_i h;subst h;exact he.symm
   ·rfl
 by_cases B:xs.length - l=0
 ·refine done w ?_ (.inr ⟨rfl,?_⟩)
  ·have A:∃q,a.eval x= .slice q 0 c:=by
    rw[H,B];rcases I2 with⟨_,h⟩|⟨b,ab,u,z,post,h,_⟩<;>rw[h]<;>exact⟨_,rfl⟩
   obtain⟨q,A⟩:=A;have C:(Builtin.clear_ #[U] ty #[.slice q 0 c]).run F.P w= .ok (.tuple #[]) w:=by
    cases q<;>simp[Builtin.clear_,hU]
   simp[execOp,resolve,invoke,builtin,A,C]
  ·have:l=xs.length:=by omega
   rw[B,this];simp
 ·have ho:o=l*e.n:=N.resolve_right B;subst ho;rcases I2 with⟨rfl,h⟩|⟨b,ab,u,z,post,D,h4,h5,h6,h7,h8⟩
  ·simp at B
  ·have C:=cR h5;have A:a.eval x= .slice (some ⟨b,u.length+l*e.n,none⟩) (xs.length - l) c:=by rw[H,D];rfl
   obtain⟨n,ac⟩:∃n,n=xs.length - l:=⟨_,rfl⟩
   rw[<-ac] at A B done ⊢;have oh:z0.cells.size=e.n:=by have:=e.len (hz (fun _=>False) w);simpa using this
   obtain⟨news,O⟩:∃news,news=(Builtin.zeroCells z0.cells n).toList:=⟨_,rfl⟩
   have G:news.length=n*e.n:=by rw[O,bo,size_zeroCells,oh]
   have aa:∀S w,e.ZK (List.replicate n zv) S w news:=fun S w=>Er (hz S w) n news G fun i hi=>by rw[O];exact Bj (by rw[oh];exact hi)
   have D1:=rM (aa (fun _=>False) w);have ah:l*e.n+n*e.n=z.length:=by rw[C,<-L6];congr 1;omega
   have e1:u++(z++post)=(u++z.take (l*e.n))++(z.drop (l*e.n)++post):=by
    rw[E0,<-E0 (z.take _),ak]
   have P7:u.length+l*e.n+news.length<=(u++(z++post)).length:=by simp only[sM,G];omega
   have I:=run_storeCells_at F.P b (u.length+l*e.n) T news 0 (u++(z++post)).toArray w h4 (by simpa using P7) D1;have L:(u++(z++post)).take (u.length+l*e.n)=u++z.take (l*e.n):=by
    have M:(u++z.take (l*e.n)).length=u.length+l*e.n:=by rw[sM,E9];omega
    rw[e1,<-M];exact aCo
   have Z2:(u++(z++post)).drop (u.length+l*e.n+news.length)=post:=by
    have M:(u++z).length=u.length+l*e.n+news.length:=by rw[sM,G];omega
    rw[<-E0,<-M];exact rf
   simp only[aDg,List.toList_toArray] at I;rw[L,Z2] at I;refine done (w.setRow b (u++z.take (l*e.n)++news++post).toArray) ?_ (.inl ⟨b,.inl (by rw[D];rfl),bp.setRow w b _,fun hE=> .inr ⟨b,ab,u,z.take (l*e.n)++news,post,?_,?_,gL (Wr.WE (sV l h5) hE) (aa _ _),?_,?_,?_⟩⟩)
   ·have C:(Builtin.clear_ #[U] ty #[.slice (some ⟨b,u.length+l*e.n,none⟩) n c]).run F.P w= .ok (.tuple #[]) (w.setRow b (u++z.take (l*e.n)++news++post).toArray):=by
     obtain⟨n',rfl⟩:∃n',n=n'+1:=⟨n - 1,by omega⟩
     simp[Builtin.clear_,hU,hZ,<-O,I]
    simp[execOp,resolve,invoke,builtin,A,C]
   ·rw[D];simp only[sM,E9,px];congr 1;omega
   ·have:=setRow_heap w b _ (u++z.take (l*e.n)++news++post).toArray T _ h4;rw[this];congr 3;simp
   ·simp only[sM,E9,px];omega
   ·simp only[sM,E9,G];rw[rk (by omega)];omega
   ·simp only[sM,E9,px];omega
end
end Go.Sw
namespace Go.Sw
open Go Go.RowKit
def Wr.C8{α:Type}(e:Wr α):Wr (Option α) where
 n:=1
 agg:=false
 ok x S w cs:=match x with
  |none=>cs=[.pointer none]
  |some z=>∃b u A,cs=[.pointer (some ⟨b,u,none⟩)]/\b<w.heap.size/\¬S b/\WK w b u A/\e.ok z S w A
 len {x _ _ _} h:=by
  cases x with
  |none=>rw[h];rfl
  |some z=>obtain⟨_,_,_,h,_⟩:=h;rw[h];rfl
 one _:=rfl
 cell {x _ _ _} h c hc:=by
  cases x with
  |none=>rw[h] at hc;simp at hc;subst hc;rfl
  |some z=>obtain⟨_,_,_,h,_⟩:=h;rw[h] at hc;simp at hc;subst hc;rfl
 mono {x _ _ _ _ _} h k:=by
  cases x with
  |none=>exact h
  |some z=>
   obtain⟨b,u,A,D,B,C,E,F⟩:=h;exact⟨b,u,A,D,T4 B k.size,(k.I9 b B C).2,E.mono B C k,e.mono F k⟩
theorem Hw{α:Type}{e:Wr α}{S w u}:(Wr.C8 e).val none S w u↔u= .pointer none:=by
 constructor
 ·rintro⟨z,h,rfl⟩;simp only[Wr.C8] at h;subst h;rfl
 ·rintro rfl;exact⟨[.pointer none],rfl,rfl⟩
theorem Bk{α:Type}{e:Wr α}{z:α}{S w u}:(Wr.C8 e).val (some z) S w u↔∃b off ds,u= .pointer (some ⟨b,off,none⟩)/\b<w.heap.size/\¬S b/\WK w b off ds/\e.ok z S w ds:=by
 constructor
 ·rintro⟨A,⟨b,off,ds,rfl,h⟩,rfl⟩;exact⟨b,off,ds,rfl,h⟩
 ·rintro⟨b,off,ds,rfl,h⟩;exact⟨[.pointer (some ⟨b,off,none⟩)],⟨b,off,ds,rfl,h⟩,rfl⟩
section
variable {F:XO}{σ:AS}{pb:Option Nat}{s:Slot}{d:Option Tmp}{ty:TypeId}{p:String}{af:Array Edge}{gd:Option (Nat×Bool)}{x y z:Operand}{α:Type}{e:Wr α}
theorem Z.C8(e:Wr α):∀S w,(Wr.C8 e).ok none S w [.pointer none]:=fun _ _=>rfl
theorem MK{v:α}{ρ S w u}(h:(Slot.YI e v).ok ρ S w u):(Slot.v (Wr.C8 e) (some v)).ok ρ S w u:=by
 simp only[Slot.ok] at h ⊢;exact Bk.2 h
theorem BC{o:Oper}{v:α}{new:List (Nat×WA)}(h:JO F o σ (.YI e v) new):JO F o σ (.v (Wr.C8 e) (some v)) new:=by
 intro ρ S a w K;refine(h ρ S a w K).mono ?_;rintro u D ⟨ρ',z,A,B,C⟩;exact⟨ρ',z,A,MK B,C⟩
theorem jW(e:Wr α):JO F ⟨d,.assign (.const (.pointer none)),ty,p,af,gd⟩ σ (.v (Wr.C8 e) none) []:=by
 intro ρ S a w K;exact WB.value (w':=w) (v:= .pointer none) (by simp[execOp,Act.eval]) (YC.same (by simp only[Slot.ok];exact Hw.2 rfl))
theorem Jj{v:Option α}{v':α}(hv:v=some v')(hx:dF σ.g x=some (.v (Wr.C8 e) v)):JO F ⟨d,.nilCheck x,ty,p,af,gd⟩ σ (.YI e v') []:=by
 subst hv;intro ρ S a w K;have h:=K.slot x (by simp[Op.operands]) _ hx;simp only[Slot.ok] at h;obtain⟨b,z,A,u,B⟩:=Bk.1 h;refine WB.value (w':=w) (v:=a.eval x) ?_ (YC.same (by simp only[Slot.ok];exact⟨b,z,A,u,B⟩));simp[execOp,u]
theorem Hx{P:Program}(w:World)(T E:TypeId)(ad:Option Addr)(hT:∀w,(underlying T).run P w= .ok (.pointer E) w):(Op.equal T (.pointer ad) (.pointer none)).run P w= .ok ad.isNone w:=by
 unfold Op.equal Op.maxDepth Op.equalIn;cases ad<;>simp[hT]
theorem ML{v:Option α}{T T' E:TypeId}(hx:dF σ.g x=some (.v (Wr.C8 e) v))(hT:∀w,(underlying T).run F.P w= .ok (.pointer E) w):JO F ⟨d,.binOp .neq T x (.const (.pointer none)) T',ty,p,af,gd⟩ σ (.v Wr.bool v.isSome) []:=by
 intro ρ S a w K;have h:=K.slot x (by simp[Op.operands]) _ hx;simp only[Slot.ok] at h;obtain⟨u,A,C⟩:∃u,a.eval x= .pointer u/\(!u.isNone)=v.isSome:=by
  cases v with
  |none=>exact⟨none,Hw.1 h,rfl⟩
  |some z=>obtain⟨b,D,G,A,_⟩:=Bk.1 h;exact⟨_,A,rfl⟩
 have B:=Hx (P:=F.P) w T E u hT;refine WB.value (w':=w) (v:= .bool v.isSome) ?_ (YC.same (pJ _ ρ S w));rw[<-C];exact CW (r:=u.isNone) (.inr ⟨rfl,rfl⟩) A rfl (by intros;simp) (by intros;simp) (by intros;simp) (by intros;simp) (by simp[eqGuard,Act.eval]) B
theorem MM{zs:List α}{v:α}{U E:TypeId}{len:Nat}{k:IntKind}{n:Int}(hz:Sw.idx zs n=some v)(hx:dF σ.g x=some (.v (Wr.arr len e) zs))(hy:dF σ.g y=some (.v (Wr.int k) n))
  (hU:∀w,(underlying U).run F.P w= .ok (.array len E) w) (hE:∀w,(sizeOf E).run F.P w= .ok e.n w) (hA:∀w,(isAgg E).run F.P w= .ok e.agg w):JO F ⟨d,.index U x y,ty,p,af,gd⟩ σ (.v e v) []:=by
 intro ρ S a w K;have h:=K.slot x (by simp[Op.operands]) _ hx;simp only[Slot.ok] at h;obtain⟨N,⟨O,G⟩,H⟩:=h;have B:=(fX K (x:=y) (by simp[Op.operands]) hy).1;obtain⟨I,Q,L⟩:=dK hz;obtain⟨z,c,b,rfl,M,A,_⟩:=qU G L;have u:=HG (P:=F.P) (w:=w) (U:=E) (a:=z) (c:=c) (e:=b) hA hE (e.len A) e.one;refine WB.value (w':=w) (v:=e.pk c) ?_ (YC.same (by simp only[Slot.ok];exact⟨c,A,rfl⟩));have C:0<=n/\n<(len:Int):=⟨I,by omega⟩
 rw[M] at u;have D:a.eval x= .agg (z++(c++b)).toArray:=H;simp only[execOp,D,B,Instr.index];simp[asIntOf,hU,C,hE,u,Wr.pk]
theorem D6.aM7{k:Nat}{ps:List (Nat×Operand)}{zs:List α}(h:D6 σ e k ps zs){ρ S a w}{ys:Array Operand}(cc:∀x∈ps.map (·.2),x∈ys)(K:r7 σ ys ρ S a w):
  ∀pre rest tl:List Value,pre.length=k*e.n->rest.length=ps.length*e.n->∃ds:List Value,Instr.fill (fun i=>some (i*e.n,e.n)) (pre++(rest++tl)).toArray (ps.map fun q=>(q.1,a.eval q.2))=some (pre++(ds++tl)).toArray/\e.ZK zs S w ds:=by
 induction h with
 |nil=>intro pre rest tl D E;simp at E;subst E;exact⟨[],rfl,rfl⟩
 |cons D _ L=>
  rename_i k x z ps zs _;intro pre rest tl F G
  have C:=D ρ S a w ⟨K.low,fun y u s h=>K.slot y (cc y (by
   have:y=x:=by simpa using u
   subst this;simp)) s h,fun y u s h=>K.C6 y (cc y (by
    have:y=x:=by simpa using u
    subst this;simp)) s h⟩
  simp only[T3,l7] at C;have A:=qW (s:= .v e z) rfl C;simp only[Slot.ZL] at A;have B:=e.len A;simp only[D9,L6,qz] at G;obtain⟨ds,H,I⟩:=L (fun y u=>cc y (by simp only[H9,q9];exact .inr u)) (pre++(a.eval x).cells.toList) (rest.drop e.n) tl (by rw[sM,F,B,L6,qz]) (by rw[V8];omega);refine⟨(a.eval x).cells.toList++ds,?_,⟨_,_,rfl,A,I⟩⟩;rw[H9,Eh (a:=pre) (c:=rest.take e.n) (e:=rest.drop e.n++tl) rfl (by simp only[bo] at B;exact B) (by simp only[List.toList_toArray];rw[<-E0 (rest.take _),ak]) F (by rw[E9];omega)];simpa[E0] using H
theorem Nb{T E:TypeId}{n:Nat}{ti tE:TypeInfo}{z:Value}{zv:α}{ps:List (Nat×Operand)}{zs:List α}(hI:∀w,(typeInfo T).run F.P w= .ok ti w)(hU:∀w,(underlying T).run F.P w= .ok (.array n E) w)(hE:∀w,(typeInfo E).run F.P w= .ok tE w)(hs:tE.size=e.n)(hz:ti.zero=some z)
  (fx:∀S w,(Wr.arr n e).ok (List.replicate n zv) S w z.cells.toList) (hl:ps.length=zs.length) (hle:Nat.ble zs.length n=true) (he:D6 σ e 0 ps zs):JO F ⟨d,.build T ps.toArray,ty,p,af,gd⟩ σ (.v (Wr.arr n e) (zs++List.replicate (n - zs.length) zv)) []:=by
 intro ρ S a w K;have hle:=B3 hle;obtain⟨L,u⟩:=fx S w;have C:=cR u;simp only[px] at C;have I:zs.length*e.n<=n*e.n:=vi _ hle;obtain⟨A,B,H⟩:=he.aM7 (ys:=(Op.build T ps.toArray).operands) (by intro x h;simp[Op.operands] at h ⊢;exact h) K [] (z.cells.toList.take (zs.length*e.n)) (z.cells.toList.drop (zs.length*e.n)) (by simp) (by rw[E9,hl];omega);rw[ak] at B;have D:e.ZK (List.replicate (n - zs.length) zv) S w (z.cells.toList.drop (zs.length*e.n)):=by
  have:=wB zs.length u
  rwa [List.drop_replicate] at this
 refine WB.value (w':=w) (v:= .agg (A++z.cells.toList.drop (zs.length*e.n)).toArray) ?_ (YC.same (by simp only[Slot.ok];exact⟨_,⟨by simp only[sM,px];omega,gL H D⟩,rfl⟩));have G:F.P.built T (ps.map fun q=>(q.1,a.eval q.2))=some (A++z.cells.toList.drop (zs.length*e.n)).toArray:=by
  unfold Program.built;rw[uJ hI,qY hU];simp only[hz,uJ hE,hs];simpa using B
 have:=run_build (P:=F.P) w T (ps.map fun q=>(q.1,a.eval q.2)).toArray _ (by simpa using G);simp only[execOp,aDb];simp[this]
end
end Go.Sw
namespace Go.Sw
open Go Go.RowKit
inductive bq (α:Type) where
 |rows (xs:List α)
 |any (n:Nat)
def bq.ok{α:Type}(e:Wr α)(S:Nat->Prop)(w:World):bq α->List Value->Prop
 | .rows xs,h=>e.ZK xs S w h
 | .any n,h=>h.length=n
def bq.ZK{α:Type}(e:Wr α)(S:Nat->Prop)(w:World):List (bq α)->List Value->Prop
 | [],h=>h=[]
 |s::r,h=>∃c d,h=c++d/\s.ok e S w c/\bq.ZK e S w r d
section
variable {α:Type}{e:Wr α}{S S':Nat->Prop}{w w':World}
theorem bq.VX{s:bq α}{cs}(h:s.ok e S w cs)(k:Ext S S' w w'):s.ok e S' w' cs:=by
 cases s with
 |rows xs=>exact Wr.WE h k
 |any n=>exact h
theorem bq.WE:∀{q:List (bq α)} {cs},bq.ZK e S w q cs->Ext S S' w w'->bq.ZK e S' w' q cs
 | [],_,h,_=>h
 |_::_,_,⟨c,d,u,z,A⟩,k=>⟨c,d,u,bq.VX z k,bq.WE A k⟩
end
def DE.M4{α:Type}(T:TypeId)(e:Wr α)(b:Nat):DE (List (bq α)) where
 ok q S w u _:=u.v= .pointer (some ⟨b,0,none⟩)/\∃h,w.heap[b]? =some (.cells h.toArray T (0,0))/\bq.ZK e S w q h
 mono:=by
  rintro q S E w F u l ⟨z,h,A,B⟩ C D;exact⟨z,h,by rw[D b (.inl (by rw[z];rfl))];exact A,bq.WE B C⟩
section
variable {F:XO}{σ:AS}{pb:Option Nat}{s:Slot}{d:Option Tmp}{ty:TypeId}{p:String}{af:Array Edge}{gd:Option (Nat×Bool)}{x y z:Operand}{α:Type}{e:Wr α}{T U:TypeId}{i b:Nat}
theorem Qr{cs:List Code}{Q:Exit->Act->World->Prop}{t:Nat}{g':List (Nat×Slot)}{A B:List α}(hσ:σ.d=[(i,.arr T e (A++B))])(hB:B≠ [])(hx:lk σ.g t=some (.ref i))(hg:fj σ.g g')(hl:g'.all (fun y=>y.2.YS.isEmpty)=true)
  (k:∀b p q c,(A++B).length<=c->c*e.n<=(A++B).length*e.n+q->(A++B).length<=140737488355328->
   W F cs ⟨(t,.y9 i p 0 (A++B).length c)::g',[(i,.dp (DE.M4 T e b) [.any p,.rows A,.rows B,.any q] [])]⟩ Q):W F cs σ Q:=by
 obtain⟨g,dd⟩:=σ;simp only at hσ hx hg;subst hσ;rintro a w ⟨⟨ρ,N,O⟩,hz,ZG⟩;have L:aX [(i,WA.arr T e (A++B))] i=some (.arr T e (A++B)):=by simp[aX]
 have S:j4 T e (A++B) (Un F.S0 ρ [(i,.arr T e (A++B))]) w (ρ i).v:=N.own i _ L;rcases S with⟨h,_⟩|⟨b,ab,K,ad,G,P,h2,R,h4,h5,h6⟩
 ·simp at h;exact absurd h.2 hB
 have YX:=cR R;refine k b K.length G.length ab h4 (by omega) h6 a w ?_;let ρ':Nat->LV:=fun l=>if l=i then .of (.pointer (some ⟨b,0,none⟩)) else ρ l
 have H:ρ' i= .of (.pointer (some ⟨b,0,none⟩)):=XC rfl;have I:∀l z,aX [(i,WA.dp (DE.M4 T e b) [.any K.length,.rows A,.rows B,.any G.length] [])] l=some z->l=i:=by
  intro l z h;rw[cN] at h;split at h
  ·rename_i C;exact C.symm
  ·cases h
 have ac:∀l z,aX [(i,WA.arr T e (A++B))] l=some z->l=i:=by
  intro l z h;rw[cN] at h;split at h
  ·rename_i C;exact C.symm
  ·cases h
 have U:∀k,qT (ρ' i) k->qT (ρ i) k:=by
  intro k D;rw[H] at D;have:=pI.1 D;left;rw[P];exact this
 obtain⟨q1,q2⟩:=N.mj (d':=[(i,.dp (DE.M4 T e b) [.any K.length,.rows A,.rows B,.any G.length] [])]) (ρ':=ρ') (fun l z bb h D=>by
   have V:=I l z h;rw[V] at D
   exact⟨i,_,L,U bb D⟩) (fun l l' z aa k h h' _ _=>by rw[I l z h,I l' aa h']) (fun hE l z h=>by
   obtain rfl:=I l z h;simp only[aX,aC3,XX,B1] at h;subst h;rw[H];obtain⟨ca,cb,rfl,k1,k2⟩:=zH (Wr.WE R hE)
   exact⟨rfl,_,h2,K,_,rfl,rfl,ca,_,by rw[E0],k1,cb,G,rfl,k2,G,[],by simp,rfl,rfl⟩)
 refine⟨⟨ρ',q1,fun u s E=>?_⟩,hz,ZG⟩;rw[mG] at E;split at E
 ·rename_i C;subst C;cases E;have:=O t _ hx;simp only[Slot.ok] at this ⊢;refine⟨⟨b,by rw[H];rfl⟩,?_⟩;rw[this.2,P,H];rfl
 ·have X:=hg.spec u s E;refine Slot.VX s _ (O u s X) q2 fun l M=>?_;have:=o6.1 hl _ (Mj E);have:s.YS=[]:=by simpa using this
  rw[this] at M;cases M
theorem Bl{t p n c q:Nat}{A V B:List α}(hn:n=(A++(V++B)).length)(hnc:n<=c)(oz:c*e.n<=n*e.n+q)(r8:n<=140737488355328){g:List (Nat×Slot)}(hx:lk g t=some (.y9 i p 0 n c)):
  Sub F ⟨g,[(i,.dp (DE.M4 T e b) [.any p,.rows A,.rows V,.rows B,.any q] [])]⟩ ⟨[(t,.ref i)],[(i,.arr T e (A++(V++B)))]⟩:=by
 rintro a w ⟨⟨ρ,hc,hs⟩,hz,ZG⟩;have P:aX [(i,WA.dp (DE.M4 T e b) [.any p,.rows A,.rows V,.rows B,.any q] [])] i=some (.dp (DE.M4 T e b) [.any p,.rows A,.rows V,.rows B,.any q] []):=by simp[aX]
 obtain⟨E,cs,I,K⟩:=hc.own i _ P;obtain⟨M,_,rfl,rfl,N,_,rfl,U,cv,_,rfl,X,O,_,rfl,k3,ac,_,rfl,rfl,rfl⟩:=K;let ρ':Nat->LV:=fun l=>if l=i then .of (.slice (some ⟨b,M.length,none⟩) n c) else ρ l
 have C:ρ' i= .of (.slice (some ⟨b,M.length,none⟩) n c):=XC rfl;have D:∀l z,aX [(i,WA.arr T e (A++(V++B)))] l=some z->l=i:=by
  intro l z h;rw[cN] at h;split at h
  ·rename_i H;exact H.symm
  ·cases h
 have Q:∀{S w},e.ZK A S w N->e.ZK V S w cv->e.ZK B S w O->e.ZK (A++(V++B)) S w (N++(cv++O)):=fun E I K=>gL E (gL I K);have aa:=cR (Q U X k3)
 obtain⟨q1,q2⟩:=hc.mj (d':=[(i,.arr T e (A++(V++B)))]) (ρ':=ρ') (fun l z k h R=>by
   obtain rfl:=D l z h;refine⟨l,_,P,?_⟩;rw[C] at R;have:=pI.1 R
   left;rw[E];exact this) (fun l l' z ab k h h' _ _=>by rw[D l z h,D l' ab h']) (fun L l z h=>by
   obtain rfl:=D l z h;simp only[aX,aC3,XX,B1] at h;subst h;rw[C];refine .inr ⟨b,c,M,N++(cv++O),ac,by rw[hn];rfl,?_,Q (Wr.WE U L) (Wr.WE X L) (Wr.WE k3 L),by omega,?_,by omega⟩
   ·rw[I];simp[E0]
   ·rw[aa,<-hn];exact oz)
 refine⟨⟨ρ',q1,fun u s G=>?_⟩,hz,ZG⟩;rw[mG] at G;split at G
 ·rename_i H;subst H;cases G;have:=hs t _ hx;simp only[Slot.ok] at this ⊢;refine⟨.inl ⟨_,_,_,by rw[C];rfl⟩,?_⟩;rw[this.2,E,C];rfl
 ·cases G
theorem rT{ρ:Nat->LV}{S:Nat->Prop}{w:World}{o n c:Nat}{v:Value}(h:(Slot.y9 i o 0 n c).ok ρ S w v):∃b,(ρ i).v= .pointer (some ⟨b,0,none⟩)/\v= .slice (some ⟨b,o,none⟩) n c:=by
 simp only[Slot.ok] at h;obtain⟨⟨b,u⟩,z⟩:=h;exact⟨b,u,by rw[z,u];rfl⟩
theorem Nc{ρ:Nat->LV}{S:Nat->Prop}{w:World}{o n c b:Nat}(h:(ρ i).v= .pointer (some ⟨b,0,none⟩)):(Slot.y9 i o 0 n c).ok ρ S w (.slice (some ⟨b,o,none⟩) n c):=by
 simp only[Slot.ok];exact⟨⟨b,h⟩,by rw[h];rfl⟩
theorem Aa{o n c m:Nat}{lo:Int}{k:IntKind}{E:TypeId}(o' n' c':Nat)(hlo:lo=(m:Int))(hm:m<=n)(hmc:m<c)(ho:o'=o+m*e.n)(J0:n'=n - m)(R0:c'=c - m)(hx:dF σ.g x=some (.y9 i o 0 n c))(hy:dF σ.g y=some (.v (Wr.int k) lo))
  (hU:∀w,(underlying U).run F.P w= .ok (.slice E) w) (hE:∀w,(sizeOf E).run F.P w= .ok e.n w):JO F ⟨d,.slice U x (some y) none none,ty,p,af,gd⟩ σ (.y9 i o' 0 n' c') []:=by
 subst hlo ho J0 R0;intro ρ S a w K;obtain⟨b,A,B⟩:=rT (K.slot x (by simp[Op.operands]) _ hx);have h:=(fX K (x:=y) (by simp[Op.operands]) hy).1;refine WB.value (w':=w) ?_ (YC.same (Nc A));have u:=Dh (P:=F.P) (w:=w) (len:=n) (cap:=c) (k:=k) (lo:=(m:Int)) (by omega) (by omega);have z:¬(c=m):=by omega
 simp[execOp,Instr.sliceAt,Instr.slice,B,h,hU,hE,u,z,Addr.add_lit]
theorem Es{o n c m:Nat}{hi:Int}{k:IntKind}{E:TypeId}(n':Nat)(hhi:hi=(m:Int))(hm:m<=c)(J0:n'=m)(hx:dF σ.g x=some (.y9 i o 0 n c))(hy:dF σ.g y=some (.v (Wr.int k) hi))
  (hU:∀w,(underlying U).run F.P w= .ok (.slice E) w) (hE:∀w,(sizeOf E).run F.P w= .ok e.n w):JO F ⟨d,.slice U x none (some y) none,ty,p,af,gd⟩ σ (.y9 i o 0 n' c) []:=by
 subst hhi J0;intro ρ S a w K;obtain⟨b,A,B⟩:=rT (K.slot x (by simp[Op.operands]) _ hx);have h:=(fX K (x:=y) (by simp[Op.operands]) hy).1;refine WB.value (w':=w) ?_ (YC.same (Nc A));have u:=Ho (P:=F.P) (w:=w) (len:=n) (cap:=c) (k':=k) (hi:=(n':Int)) (by omega) (by omega);have z:Addr.add ⟨b,o,none⟩ 0=⟨b,o,none⟩:=by rw[Addr.add_lit];rfl
 simp[execOp,Instr.sliceAt,Instr.slice,B,h,hU,hE,u,z]
theorem Uw{ρ:Nat->LV}{w:World}{q:List (bq α)}(hc:Core F σ.d ρ w)(he:aX σ.d i=some (.dp (DE.M4 T e b) q [])):(ρ i).v= .pointer (some ⟨b,0,none⟩)/\∃cs,w.heap[b]? =some (.cells cs.toArray T (0,0))/\bq.ZK e (Un F.S0 ρ σ.d) w q cs:=hc.own i _ he
theorem Qs{ρ:Nat->LV}{a:Act}{w:World}{q q':List (bq α)}{k:Nat}{c0 c1 c2 news:List Value}(hc:Core F σ.d ρ w)(hs:∀t s,lk σ.g t=some s->s.ok ρ (Un F.S0 ρ σ.d) w (a.tmps.getD t undef))(hz:a.tmps.size=F.N)(ZG:a.defers=F.df)
  (he:aX σ.d i=some (.dp (DE.M4 T e b) q [])) (hd:gQ d F.N=true) (hb:w.heap[b]? =some (.cells (c0++(c1++c2)).toArray T (0,0))) (hk:k<=9223372036854775807)
  (hq:∀w',Ext (Un F.S0 ρ σ.d) (Un F.S0 ρ σ.d) w w'->bq.ZK e (Un F.S0 ρ σ.d) w' q' (c0++(news++c2))):
  St F ⟨iR d (.v (Wr.int .i64) ((k:Nat):Int)) σ.g,(i,.dp (DE.M4 T e b) q' [])::σ.d⟩ (a.put d (.int .i64 (k:Int))) (w.setRow b (c0++(news++c2)).toArray):=by
 have z:=(Uw hc he).1;have C:=bp.setRow w b (c0++(news++c2)).toArray;obtain⟨G,H⟩:=hc.upd (en':= .dp (DE.M4 T e b) q' []) he (.inl (by rw[z];rfl)) C (fun E=>⟨z,_,setRow_heap w b _ (c0++(news++c2)).toArray T _ hb,hq _ E⟩);refine⟨⟨ρ,G,fun t s h=>?_⟩,by rw[kZ,hz],by cases d<;>exact ZG⟩;have A:∀t s,lk σ.g t=some s->s.ok ρ (Un F.S0 ρ ((i,.dp (DE.M4 T e b) q' [])::σ.d)) (w.setRow b (c0++(news++c2)).toArray) (a.tmps.getD t undef):=fun t s h=>Slot.VX s _ (hs t s h) H (fun _ _=>rfl);cases d with
 |none=>exact A t s h
 |some B=>
  simp only[iR] at h;have D:B<a.tmps.size:=by rw[hz];exact B3 hd
  rw[lA a B _ t D];rw[mG] at h;split at h
  ·rename_i u;cases h;rw[XC u];exact tK (De hk) _ _ _
  ·rename_i u;rw[WV u];exact A t s h
theorem Gl{P:Program}{w:World}{U E tt:TypeId}{en b o n c m cap:Nat}{ad:Option Addr}{c0 c1 c2 news:List Value}(hU:∀w,(underlying U).run P w= .ok (.slice E) w)(hE:∀w,(sizeOf E).run P w= .ok en w)
  (hb:w.heap[b]? =some (.cells (c0++(c1++c2)).toArray T (0,0))) (h0:c0.length=o) (h1:c1.length=news.length) (hn:news.length=min m n*en) (D2:∀ni,ad=some ni->∀j u,news[j]? =some u->w.cell? (ni.add j)=some u) (eg:ad=none->news=[]) (D1:∀v∈news,v.oneCell'=true):
  (Builtin.copy_ #[U,U] tt #[.slice (some ⟨b,o,none⟩) n c,.slice ad m cap]).run P w= .ok (.int .i64 ((min m n:Nat):Int)) (w.setRow b (c0++(news++c2)).toArray):=by
 have z:(Builtin.firstCells en (min m n) (.slice ad m cap)).run P w= .ok news.toArray w:=by
  cases YT:ad with
  |none=>rw[eg YT];simp[Builtin.firstCells]
  |some ni=>exact run_firstCells_some (P:=P) w en (min m n) ni m cap news hn (D2 ni YT)
 have A:o+news.length<=(c0++(c1++c2)).length:=by simp only[sM];omega
 have h:=run_storeCells_at P b o T news 0 (c0++(c1++c2)).toArray w hb (by simpa using A) D1;have B:(c0++(c1++c2)).take o=c0:=by rw[<-h0];exact aCo
 have JF:(c0++(c1++c2)).drop (o+news.length)=c2:=by
  rw[<-h0,<-h1,<-E0,<-sM];exact rf
 simp only[aDg] at h;rw[B,JF,E0] at h;simp only[Builtin.copy_];have C:Nat.min m n=min m n:=rfl;simp[hU,hE,Builtin.lenOf,C,z,h,goInt]
theorem Lu{xs:List α}{S w cs}(h:e.ZK xs S w cs):∀v∈cs,v.oneCell'=true:=rM h
theorem Ux{q m pp n1 c1 n2 c2 o1 o2:Nat}{A B:List α}{E:TypeId}(he:aX σ.d i=some (.dp (DE.M4 T e b) [.any pp,.rows A,.rows B,.any q] []))(hx:dF σ.g x=some (.y9 i o1 0 n1 c1))(hy:dF σ.g y=some (.y9 i o2 0 n2 c2))
  (ho1:o1=pp+(A.length+m)*e.n) (yw:o2=pp+A.length*e.n) (L7:n1=B.length) (qt:n2=B.length+m) (hq:m*e.n<=q) (hBl:B.length<=9223372036854775807)
  (hU:∀w,(underlying U).run F.P w= .ok (.slice E) w) (hE:∀w,(sizeOf E).run F.P w= .ok e.n w) (hd:gQ d F.N=true):
  JM F ⟨d,.call ⟨.builtin .copy,#[x,y],#[U,U]⟩,ty,p,af,gd⟩ σ ⟨iR d (.v (Wr.int .i64) ((B.length:Nat):Int)) σ.g,(i,.dp (DE.M4 T e b) [.any pp,.rows A,.any (m*e.n),.rows B,.any (q - m*e.n)] [])::σ.d⟩:=by
 subst ho1 yw L7 qt;rintro a w ⟨⟨ρ,O,hs⟩,r8,ZG⟩;have K:=cK O hs (Op.call ⟨.builtin .copy,#[x,y],#[U,U]⟩).operands;obtain⟨b1,g1,g2⟩:=rT (K.slot x (by simp[Op.operands,Call.operands]) _ hx);obtain⟨b2,g3,g4⟩:=rT (K.slot y (by simp[Op.operands,Call.operands]) _ hy);obtain⟨k1,cs,I,C,_,rfl,D,G,_,rfl,k4,cb,_,rfl,M,L,_,rfl,Q,rfl⟩:=Uw O he;have e1:b1=b:=by rw[k1] at g1;cases g1;rfl
 have e2:b2=b:=by rw[k1] at g3;cases g3;rfl
 rw[e1] at g2;rw[e2] at g4;have D:C.length=pp:=D;have Q:L.length=q:=Q;have R:=cR k4;have S:=cR M;obtain⟨z,l3⟩:∃z,z=cb++(L++[]):=⟨_,rfl⟩
 have H:z.length=B.length*e.n+q:=by rw[l3];simp only[sM,X3];omega
 have V:C++(G++(cb++(L++[])))=(C++G++z.take (m*e.n))++((z.drop (m*e.n)).take (B.length*e.n)++z.drop (m*e.n+B.length*e.n)):=by
  rw[<-l3];have:z=z.take (m*e.n)++((z.drop (m*e.n)).take (B.length*e.n)++z.drop (m*e.n+B.length*e.n)):=by
   rw[<-aDz,ak,ak]
  conv=>lhs;rw[this]
  simp only[E0]
 rw[V] at I;have X:min (B.length+m) B.length=B.length:=by omega
 have M9:∀j u,cb[j]? =some u->w.cell? ((⟨b,pp+A.length*e.n,none⟩:Addr).add j)=some u:=by
  have hm:WK w b (C.length+G.length) cb:=by
   have h1:=WK.of_heap I;rw[<-V,<-E0] at h1;have:=WK.sub (a:=C++G) (c:=cb) (d:=L++[]) h1;simpa using this
  intro j u hj;have:=hm.cell j u hj
  rwa [D,R] at this
 have hr:=Gl (P:=F.P) (w:=w) (tt:=ty) (T:=T) (U:=U) (E:=E) (en:=e.n) (b:=b) (o:=pp+(A.length+m)*e.n) (n:=B.length) (c:=c1) (m:=B.length+m) (cap:=c2) (ad:=some ⟨b,pp+A.length*e.n,none⟩) (news:=cb) hU hE I
  (by simp only[sM,E9,D,R,H];rw[rk (by omega),L6];omega)
  (by simp only[E9,V8,H,S];omega) (by rw[X];exact S) (fun ni h=>by cases h;exact M9) (fun h=>by cases h) (Lu M)
 rw[X] at hr;refine WB.value (v:= .int .i64 ((B.length:Nat):Int)) (w':=_) ?_ (Qs (q':=[.any pp,.rows A,.any (m*e.n),.rows B,.any (q - m*e.n)]) O hs r8 ZG he hd I hBl (news:=cb) fun w' qy=>?_)
 ·simp[execOp,resolve,invoke,builtin,g2,g4,hr]
 ·refine⟨C,_,by rw[E0,E0],D,G,_,rfl,Wr.WE k4 qy,z.take (m*e.n),_,rfl,?_,cb,_,rfl,Wr.WE M qy,z.drop (m*e.n+B.length*e.n),[],by simp,?_,rfl⟩
  ·show (z.take (m*e.n)).length=_;rw[E9,H];omega
  ·show (z.drop (m*e.n+B.length*e.n)).length=_;rw[V8,H];omega
theorem Ym{q m pp n1 c1 o1 k:Nat}{A V B:List α}{E:TypeId}(he:aX σ.d i=some (.dp (DE.M4 T e b) [.any pp,.rows A,.any k,.rows B,.any q] []))(hx:dF σ.g x=some (.y9 i o1 0 n1 c1))(hy:Src σ y e V)
  (ho1:o1=pp+A.length*e.n) (hV:V.length=m) (hk:k=m*e.n) (L7:m<=n1)
  (hU:∀w,(underlying U).run F.P w= .ok (.slice E) w) (hE:∀w,(sizeOf E).run F.P w= .ok e.n w) (hd:gQ d F.N=true):
  JM F ⟨d,.call ⟨.builtin .copy,#[x,y],#[U,U]⟩,ty,p,af,gd⟩ σ ⟨iR d (.v (Wr.int .i64) ((m:Nat):Int)) σ.g,(i,.dp (DE.M4 T e b) [.any pp,.rows A,.rows V,.rows B,.any q] [])::σ.d⟩:=by
 subst ho1 hk;rintro a w ⟨⟨ρ,R,hs⟩,r8,ZG⟩;have K:=cK R hs (Op.call ⟨.builtin .copy,#[x,y],#[U,U]⟩).operands;obtain⟨b1,g1,g2⟩:=rT (K.slot x (by simp[Op.operands,Call.operands]) _ hx);have S:∀q,q∈#[y]->q∈(Op.call ⟨.builtin .copy,#[x,y],#[U,U]⟩).operands:=by
  intro q z;have N8:q=y:=by simpa using z
  subst N8;simp[Op.operands,Call.operands]
 obtain⟨U1,ad,c,r1,r2⟩:=hy ρ _ a w ⟨K.low,fun q z s h=>K.slot q (S q z) s h,fun q z s h=>K.C6 q (S q z) s h⟩;obtain⟨k1,cs,L,D,_,rfl,C,M,_,rfl,k4,cg,_,rfl,G,O,_,rfl,k5,Q,_,rfl,C9,rfl⟩:=Uw R he;have e1:b1=b:=by rw[k1] at g1;cases g1;rfl
 rw[e1] at g2;have C:D.length=pp:=C;have G:cg.length=m*e.n:=G;have Z9:=cR k4;have X:min m n1=m:=by omega
 obtain⟨news,aa,n2,n3,n4⟩:∃news:List Value,news.length=m*e.n/\e.ZK V (Un F.S0 ρ σ.d) w news/\(∀H,ad=some H->∀j u,news[j]? =some u->w.cell? (H.add j)=some u)/\(ad=none->news=[]):=by
  rcases r2 with rfl |⟨b3,ac,ds,rfl,ab,ig⟩
  ·simp at hV;subst hV;exact⟨[],by simp,rfl,fun _ _ j u h=>by simp at h,fun _=>rfl⟩
  ·exact⟨ds,by rw[cR ig,hV],ig,fun H h=>by cases h;exact ab.cell,fun h=>by cases h⟩
 have H5:D++(M++(cg++(O++(Q++[]))))=(D++M)++(cg++(O++Q)):=by simp
 rw[H5] at L;have hr:=Gl (P:=F.P) (w:=w) (tt:=ty) (T:=T) (U:=U) (E:=E) (en:=e.n) (b:=b) (o:=pp+A.length*e.n) (n:=n1) (c:=c1) (m:=m) (cap:=c) (ad:=ad) (news:=news) hU hE L
  (by simp only[sM,C,Z9]) (by rw[G,aa]) (by rw[X];exact aa) n3 n4 (Lu n2)
 rw[X] at hr;refine WB.value (v:= .int .i64 ((m:Nat):Int)) (w':=_) ?_ (Qs (q':=[.any pp,.rows A,.rows V,.rows B,.any q]) R hs r8 ZG he hd L (by omega) (news:=news) fun w' I=>?_)
 ·rw[hV] at r1;simp[execOp,resolve,invoke,builtin,g2,r1,hr]
 ·exact⟨D,_,by rw[E0],C,M,_,rfl,Wr.WE k4 I,news,_,rfl,Wr.WE n2 I,O,_,rfl,Wr.WE k5 I,Q,[],by simp,C9,rfl⟩
end
end Go.Sw
namespace Go.Sw
open Go Go.RowKit
section
variable {F:XO}{σ:AS}{pb:Option Nat}{s:Slot}{d:Option Tmp}{ty:TypeId}{p:String}{af:Array Edge}{gd:Option (Nat×Bool)}{x y z:Operand}{α:Type}{e:Wr α}{T U:TypeId}{i b:Nat}
theorem Yn{xs:Array Operand}{ρ:Nat->LV}{S a w}(K:r7 σ xs ρ S a w)(hm:x∈xs){o n c:Nat}{q:List (bq α)}(hx:dF σ.g x=some (.y9 i o 0 n c))(he:aX σ.d i=some (.dp (DE.M4 T e b) q [])):
  a.eval x= .slice (some ⟨b,o,none⟩) n c/\(∃cs,w.heap[b]? =some (.cells cs.toArray T (0,0))/\bq.ZK e S w q cs)/\S b/\b<w.heap.size:=by
 obtain⟨C,h,z⟩:=rT (K.slot x hm _ hx);obtain⟨⟨u,A⟩,B⟩:=K.C6 x hm _ hx i (by simp[Slot.YS]) _ he;rw[u] at h;cases h;exact⟨z,A,B b (.inl (by rw[u];rfl))⟩
theorem Src.M4{pp q n c o:Nat}{A B:List α}(h:dF σ.g y=some (.y9 i o 0 n c))(he:aX σ.d i=some (.dp (DE.M4 T e b) [.any pp,.rows A,.rows B,.any q] []))(ho:o=pp+A.length*e.n)(hn:n=B.length)(r8:B.length<=140737488355328):Src σ y e B:=by
 subst ho hn;intro ρ S a w K;obtain⟨u,⟨M,F,C,_,rfl,z,G,_,rfl,H,D,_,rfl,I,L,_,rfl,N,rfl⟩,_⟩:=Yn K (x:=y) (by simp) h he;have z:C.length=pp:=z;have E:=cR H;refine⟨r8,_,c,u,.inr ⟨b,_,D,rfl,?_,I⟩⟩;have u:=WK.of_heap F;rw[<-E0] at u;have:=WK.sub (a:=C++G) (c:=D) (d:=L++[]) u;simpa[z,E] using this
theorem Nf{zs ys ws:List α}{lo:Int}{E:TypeId}(kg:Sw.sub zs lo (zs.length:Int)=some ws)(hx:dF σ.g x=some (.sub i (lo.toNat*e.n) ((zs.length:Int).toNat - lo.toNat)))(he:aX σ.d i=some (.arr T e zs))(hy:Src σ y e ys)(hle:ys.length<=zs.length - lo.toNat)
  (hU:∀w,(underlying U).run F.P w= .ok (.slice E) w) (hE:∀w,(sizeOf E).run F.P w= .ok e.n w) (hd:gQ d F.N=true):
  JM F ⟨d,.call ⟨.builtin .copy,#[x,y],#[U,U]⟩,ty,p,af,gd⟩ σ ⟨iR d (.v (Wr.int .i64) ((ys.length:Nat):Int)) σ.g,(i,.arr T e (zs.take lo.toNat++ys++zs.drop (lo.toNat+ys.length)))::σ.d⟩:=by
 rintro a w ⟨⟨ρ,hc,ZW⟩,r8,ZG⟩;have K:=cK hc ZW (Op.call ⟨.builtin .copy,#[x,y],#[U,U]⟩).operands;have sy:=K.slot x (by simp[Op.operands,Call.operands]) _ hx;simp only[Slot.ok] at sy;obtain⟨_,c,o,g1,V,O⟩:=sy;have I2:j4 T e zs (Un F.S0 ρ σ.d) w (ρ i).v:=(K.C6 x (by simp[Op.operands,Call.operands]) _ hx i (by simp[Slot.YS]) _ he).1;have YL:∀q,q∈#[y]->q∈(Op.call ⟨.builtin .copy,#[x,y],#[U,U]⟩).operands:=by
  intro q G;have N8:q=y:=by simpa using G
  subst N8;simp[Op.operands,Call.operands]
 obtain⟨U1,ad,X,r1,r2⟩:=hy ρ _ a w ⟨K.low,fun q G s h=>K.slot q (YL q G) s h,fun q G s h=>K.C6 q (YL q G) s h⟩;obtain⟨s0,s1,_,_⟩:=gU kg;obtain⟨l,hl⟩:∃l,l=lo.toNat:=⟨_,rfl⟩
 simp only[p6] at g1 V O;rw[<-hl] at g1 V O hle ⊢;have aq:l<=zs.length:=by omega
 have done:∀w',(execOp a.eval ⟨d,.call ⟨.builtin .copy,#[x,y],#[U,U]⟩,ty,p,af,gd⟩).run F.P w= .ok (.value (.int .i64 ((ys.length:Nat):Int))) w'->
   (∃b,qT (ρ i) b/\bp b w w'/\(Ext (Un F.S0 ρ σ.d) (Un F.S0 ρ σ.d) w w'->(WA.arr T e (zs.take l++ys++zs.drop (l+ys.length))).ok ρ (Un F.S0 ρ σ.d) w' (ρ i)))\/(w'=w/\zs.take l++ys++zs.drop (l+ys.length)=zs)->
   WB F.P ⟨d,.call ⟨.builtin .copy,#[x,y],#[U,U]⟩,ty,p,af,gd⟩ a w fun v w'=>St F ⟨iR d (.v (Wr.int .i64) ((ys.length:Nat):Int)) σ.g,(i,.arr T e (zs.take l++ys++zs.drop (l+ys.length)))::σ.d⟩ (a.put d v) w':=by
  intro w' M h;refine WB.value M ?_;obtain⟨q1,q2⟩:Core F ((i,.arr T e (zs.take l++ys++zs.drop (l+ys.length)))::σ.d) ρ w'/\Ext (Un F.S0 ρ σ.d) (Un F.S0 ρ ((i,.arr T e (zs.take l++ys++zs.drop (l+ys.length)))::σ.d)) w w':=by
   rcases h with⟨b,H,h2,I⟩|⟨rfl,h2⟩
   ·exact hc.upd he H h2 I
   ·rw[h2];have aa:∀q en,aX σ.d q=some en↔aX ((i,.arr T e zs)::σ.d) q=some en:=fun q en=>by
     rw[cN];split
     ·rename_i h;subst h;rw[he]
     ·rfl
    exact⟨hc.congr aa,⟨YZ _,fun k _ hk=>⟨rfl,by rw[<-Un.congr aa];exact hk⟩⟩⟩
  refine⟨⟨ρ,q1,fun t s A=>?_⟩,by rw[kZ,r8],by cases d<;>exact ZG⟩;have ab:∀t s,lk σ.g t=some s->s.ok ρ (Un F.S0 ρ ((i,.arr T e (zs.take l++ys++zs.drop (l+ys.length)))::σ.d)) w' (a.tmps.getD t undef):=fun t s A=>Slot.VX s _ (ZW t s A) q2 (fun _ _=>rfl);cases d with
  |none=>exact ab t s A
  |some q0=>
   simp only[iR] at A;have XI:q0<a.tmps.size:=by rw[r8];exact B3 hd
   rw[lA a q0 _ t XI];rw[mG] at A;split at A
   ·rename_i H;cases A;rw[XC H];exact tK (De (by omega)) _ _ _
   ·rename_i H;rw[WV H];exact ab t s A
 by_cases Q:zs.length - l=0
 ·have am:ys=[]:=iw (by omega);subst am;refine done w ?_ (.inr ⟨rfl,by simp⟩);have D:∃q,a.eval x= .slice q 0 c:=by
   rw[O,Q];rcases I2 with⟨_,h⟩|⟨b,cap,B,z,C,h,_⟩<;>rw[h]<;>exact⟨_,rfl⟩
  obtain⟨q,D⟩:=D;have hf:(Builtin.firstCells e.n 0 (.slice ad 0 X)).run F.P w= .ok #[] w:=by
   cases ad<;>simp[Builtin.firstCells,loadCells,loadCellsFrom]
  have an:(Builtin.copy_ #[U,U] ty #[.slice q 0 c,.slice ad 0 X]).run F.P w= .ok (.int .i64 0) w:=by
   have L:Nat.min 0 0=0:=rfl;cases q<;>simp[Builtin.copy_,hU,hE,Builtin.lenOf,L,hf,goInt,storeCells]
  simp only[X3] at r1;simp[execOp,resolve,invoke,builtin,D,r1,an]
 ·have ho:o=l*e.n:=V.resolve_right Q;subst ho;rcases I2 with⟨rfl,h⟩|⟨b,cap,B,z,C,I,h4,h5,h6,h7,h8⟩
  ·simp at Q
  ·have YX:=cR h5;have D:a.eval x= .slice (some ⟨b,B.length+l*e.n,none⟩) (zs.length - l) c:=by rw[O,I];rfl
   obtain⟨news,ah,n2,n3,n4⟩:∃news:List Value,news.length=ys.length*e.n/\e.ZK ys (Un F.S0 ρ σ.d) w news/\(∀R,ad=some R->∀j u,news[j]? =some u->w.cell? (R.add j)=some u)/\(ad=none->news=[]):=by
    rcases r2 with rfl |⟨b3,au,ds,rfl,ap,ig⟩
    ·exact⟨[],by simp,rfl,fun _ _ j u h=>by simp at h,fun _=>rfl⟩
    ·exact⟨ds,cR ig,ig,fun R h=>by cases h;exact ap.cell,fun h=>by cases h⟩
   have L:min ys.length (zs.length - l)=ys.length:=by omega
   have m1:l*e.n+ys.length*e.n<=z.length:=by rw[YX,<-L6];exact vi _ (by omega)
   have H5:B++(z++C)=(B++z.take (l*e.n))++((z.drop (l*e.n)).take (ys.length*e.n)++(z.drop (l*e.n+ys.length*e.n)++C)):=by
    have:z=z.take (l*e.n)++((z.drop (l*e.n)).take (ys.length*e.n)++z.drop (l*e.n+ys.length*e.n)):=by
     rw[<-aDz,ak,ak]
    conv=>lhs;rw[this]
    simp only[E0]
   rw[H5] at h4;have M:=Gl (P:=F.P) (w:=w) (tt:=ty) (T:=T) (U:=U) (E:=E) (en:=e.n) (b:=b) (o:=B.length+l*e.n) (n:=zs.length - l) (c:=c) (m:=ys.length) (cap:=X) (ad:=ad) (news:=news) hU hE h4
    (by simp only[sM,E9];omega) (by simp only[E9,V8];omega) (by rw[L];exact ah) n3 n4 (Lu n2)
   rw[L] at M;refine done (w.setRow b ((B++z.take (l*e.n))++(news++(z.drop (l*e.n+ys.length*e.n)++C))).toArray) ?_ (.inl ⟨b,.inl (by rw[I];rfl),bp.setRow w b _,fun S=> .inr ⟨b,cap,B,z.take (l*e.n)++news++z.drop (l*e.n+ys.length*e.n),C,?_,?_,?_,?_,?_,?_⟩⟩)
   ·simp[execOp,resolve,invoke,builtin,D,r1,M]
   ·rw[I];simp only[sM,E9,V8];congr 1;omega
   ·have:=setRow_heap w b _ ((B++z.take (l*e.n))++(news++(z.drop (l*e.n+ys.length*e.n)++C))).toArray T _ h4;rw[this];congr 3;simp
   ·refine gL (gL (Wr.WE (sV l h5) S) (Wr.WE n2 S)) ?_;have ac:=Wr.WE (wB (l+ys.length) h5) S;rw[L6] at ac;exact ac
   ·simp only[sM,E9,V8];omega
   ·simp only[sM,E9,V8,ah];omega
   ·simp only[sM,E9,V8];omega
theorem HK{pp q k n c o:Nat}{nk:Int}{A B:List α}{I:TypeId}{kI:IntKind}{kI':IntKind}{ti:TypeInfo}{z0:Value}{zv:α}(j:Nat)(h:dF σ.g x=some (.y9 i o 0 n c))(he:aX σ.d i=some (.dp (DE.M4 T e b) [.any pp,.rows A,.rows B,.any q] []))(hy:dF σ.g y=some (.v (Wr.int kI) nk))
  (ho:o=pp) (hn:n=A.length) (hnk:nk=(k:Int)) (hk:0<k) (ui:c<n+k) (hlen:A.length+k<=4294967296) (G1:Nat.blt 0 e.n=true)
  (hU:∀w,(underlying U).run F.P w= .ok (.slice T) w) (hI:∀w,(underlying I).run F.P w= .ok (.int kI') w) (hi:∀w,(typeInfo T).run F.P w= .ok ti w) (hS:∀w,(sizeOf T).run F.P w= .ok e.n w) (hz:ti.zero=some z0) (fx:∀S w,e.ok zv S w z0.cells.toList) (X0:Nat.ble ti.bytes 4096=true):
  JO F ⟨d,.call ⟨.builtin .append,#[x,y],#[U,I]⟩,ty,p,af,gd⟩ σ (.ref j) [(j,.arr T e (A++List.replicate k zv))]:=by
 subst ho hn hnk;have G1:1<=e.n:=by simpa[Nat.blt] using G1
 have X0:=B3 X0;intro ρ S a w K;obtain⟨h1,⟨cs,h2,O,_,rfl,C,ca,_,rfl,Q,cb,_,rfl,k5,av,_,rfl,C9,rfl⟩,a1,XI⟩:=Yn K (x:=x) (by simp[Op.operands,Call.operands]) h he;have C:O.length=o:=C;have G:=cR Q;have V:=(fX K (x:=y) (by simp[Op.operands,Call.operands]) hy).1;have yq:ti.size=e.n:=Lp hi hS;have X:WK w b o ca:=by
  have:=WK.sub (a:=O) (c:=ca) (d:=cb++(av++[])) (WK.of_heap h2);simpa[C] using this
 have aa:∀j v,ca[j]? =some v->w.drew.cell? ((⟨b,o,none⟩:Addr).add j)=some v:=X.cell;have ab:(Builtin.firstCells e.n A.length (.slice (some ⟨b,o,none⟩) A.length c)).run F.P w.drew= .ok ca.toArray w.drew:=run_firstCells_some (P:=F.P) w.drew e.n A.length ⟨b,o,none⟩ A.length c ca G aa;have a0:k*ti.bytes<=281474976710656:=by
  have:k*ti.bytes<=4294967296*4096:=aCu (by omega) X0;omega
 have P7:Builtin.nextslicecap (A.length+k) c*ti.bytes<=281474976710656:=growslice_fits (by omega) (by
  have:(A.length+k)*ti.bytes<=4294967296*4096:=aCu hlen X0
  omega)
 have D:(Builtin.append_ #[U,I] ty #[.slice (some ⟨b,o,none⟩) A.length c,.int kI k]).run F.P w=
   .ok (.slice (some ⟨w.heap.size,0,none⟩) (A.length+k) (grownCap w (A.length+k) c T))
    (w.drew.alloc (.cells (ca.toArray++Builtin.zeroCells z0.cells k++Builtin.zeroCells z0.cells (grownCap w (A.length+k) c T - (A.length+k))) T)):=by
  have qw:k≠0:=by omega
  have hw:IntKind.i64.wrap (k:Int)=k:=by rw[IntKind.wrap_i64];omega
  have hn:¬(A.length+k<=c):=by omega
  have ac:¬(9223372036854775807<((A.length:Int)+(k:Int))):=by omega
  have ad:¬(281474976710656<Builtin.nextslicecap (A.length+k) c*ti.bytes):=by omega
  have ah:¬(281474976710656<(k:Int)*(ti.bytes:Int)):=by
   rw[<-Int.natCast_mul];omega
  have am:¬((k:Int)<0):=by omega
  have an:¬(k*e.n=0):=Nat.mul_ne_zero qw (by omega);have ap:∀w,(zeroValue T).run F.P w= .ok z0 w:=fun w=>by
   have:=hi w;simp[zeroValue,this,hz]
  simp[Builtin.append_,hU,hI,hS,hi,ap,asInt,asIntOf,hw,hn,am,an,ac,ad,ah,Question.forced,ab,newRow,grownCap]
 have ie:=grownCap_ge w (A.length+k) c T;obtain⟨u,R⟩:∃u,u=(Builtin.zeroCells z0.cells (grownCap w (A.length+k) c T - (A.length+k))).toList:=⟨_,rfl⟩
 have E:z0.cells.size=e.n:=by have:=e.len (fx (fun _=>False) w);simpa using this
 have H:(Builtin.zeroCells z0.cells k).toList.length=k*e.n:=by rw[bo,size_zeroCells,E]
 have P3:u.length=(grownCap w (A.length+k) c T - (A.length+k))*e.n:=by rw[R,bo,size_zeroCells,E]
 have aq:∀S w,e.ZK (List.replicate k zv) S w (Builtin.zeroCells z0.cells k).toList:=fun S w=>Er (fx S w) k _ H fun i hi=>Bj (by rw[E];exact hi);have au:ca.toArray++Builtin.zeroCells z0.cells k++Builtin.zeroCells z0.cells (grownCap w (A.length+k) c T - (A.length+k))=([]++((ca++(Builtin.zeroCells z0.cells k).toList)++u)).toArray:=by
  apply Array.ext';simp[R]
 rw[au] at D;obtain⟨w',z⟩:∃w',w'=w.drew.alloc (.cells ([]++((ca++(Builtin.zeroCells z0.cells k).toList)++u)).toArray T):=⟨_,rfl⟩
 rw[<-z] at D;have L:Below w.heap.size w w':=by
  rw[z];exact Below.trans (b:=w.drew) ⟨rfl,rfl,rfl,YZ _,fun _ _=>rfl⟩ (lH w.drew _)
 refine WB.value (w':=w') (v:= .slice (some ⟨w.heap.size,0,none⟩) (A.length+k) (grownCap w (A.length+k) c T)) (by simp[execOp,resolve,invoke,builtin,h1,V,D]) ?_;refine zT (.slice (some ⟨w.heap.size,0,none⟩) (A.length+k) (grownCap w (A.length+k) c T)) L rfl ?_ ?_ ?_
 ·intro b' M;simp only[ZE,B1] at M;subst M;exact⟨YZ _,by rw[z,World.size_alloc];exact Nat.lt_succ_self _⟩
 ·intro N ρ' hS' _;have qy:Ext S N w w':=Rz L hS';refine .inr ⟨w.heap.size,grownCap w (A.length+k) c T,[],ca++(Builtin.zeroCells z0.cells k).toList,u,by simp[LV.of],?_,gL (Wr.WE Q qy) (aq _ _),by simpa using ie,?_,by simp;omega⟩
  ·rw[z,show w.heap.size=w.drew.heap.size from rfl,heap_alloc_new]
  ·rw[sM,G,H,P3,<-L6,<-L6];exact vi _ (by omega)
 ·intro N ρ' _ hρ _;simp only[Slot.ok];exact⟨.inl ⟨_,_,_,hρ⟩,hρ.symm⟩
theorem Sr{P:Program}{w:World}{tS tR E:TypeId}{size b o la ca lb cb oa ba:Nat}{cs:List Value}{c':Array Value}{T':TypeId}{fr:Nat×Nat}(hU:∀w,(underlying tS).run P w= .ok (.slice E) w)(hz:∀w,(sizeOf E).run P w= .ok size w)
  (ZI:ba≠b) (hb:w.heap[b]? =some (.cells cs.toArray T (0,0))) (dc:cs≠ []) (ha:w.heap[ba]? =some (.cells c' T' fr)) (R0:c'.size≠0):
  (Extern.SlicesOverlaps.overlaps #[tS,tS] #[tR] #[.slice (some ⟨ba,oa,none⟩) la ca,.slice (some ⟨b,o,none⟩) lb cb]).run P w= .ok (.bool false) w:=by
 have B:(ba != b)=true:=by simpa using ZI
 have C:(ba==b)=false:=by simpa using ZI
 have D:∀o,w.frozen? ⟨b,o,none⟩=false:=fun o=>by simp[World.frozen?,hb]
 have u:w.shape? b=some (T,cs.length):=by simp[World.shape?,hb]
 have z:w.shape? ba=some (T',c'.size):=by simp[World.shape?,ha]
 obtain⟨h,G⟩:∃h,c'.size=h+1:=⟨c'.size - 1,by omega⟩
 rw[G] at z;have F:∃m,cs.length=m+1:=⟨cs.length - 1,by have:=pw.2 dc;omega⟩
 obtain⟨m,H⟩:=F;rw[H] at u
 change Sem.run P (α:=Value) (do
  let some t:=(#[tS,tS]:Array TypeId)[0]? | stuck "slices.overlaps: no parameter types"
  let .slice elem<-underlying t | stuck "slices.overlaps: slice type expected"
  let size<-sizeOf elem
  match (some ⟨ba,oa,none⟩:Option Addr),(some ⟨b,o,none⟩:Option Addr) with
  |some a,some b=>
   if la=0\/lb=0\/size=0 then pure (Value.bool false)
   else if a.block != b.block && (<-frozen a) && (<-frozen b) then unsupported .addressObserved
   else do
    if a.block != b.block then do
     noView a;noView b
     if<-mayBeOne a b then return Value.bool ((<-choose (.extern "sameAddr.stringBytes" 2))==1)
    pure (Value.bool (a.block==b.block && a.off<b.off+lb*size && b.off<a.off+la*size))
  |_,_=>pure (Value.bool false)) w=_
 by_cases A:la=0\/lb=0\/size=0
 ·simp[hU,hz,A]
 ·cases hfa:w.frozen? ⟨ba,oa,none⟩<;>cases aZ3:w.frozen? ⟨ba,h+1,none⟩<;>
   simp[hU,hz,A,B,C,frozen,noView,viewAt,mayBeOne,stringish,shape,Sem.run,z,u,D,hfa,aZ3]
theorem Uy{f:FuncId}{fn:Func}{vs:List α}{o n c pp q:Nat}{A B:List α}{ts:Array TypeId}{R:TypeId}(hf:F.P.funcs[f]? =some fn)(aPq:(fn.name== "runtime.NumGoroutine")=false) (hb:fn.body.isNone=true) (hn:Extern.findNext fn=none)
  (aZ7:Extern.find fn=some (Extern.SlicesOverlaps.overlaps #[U,U] #[R])) (hx:dF σ.g x=some (.v (Wr.sl e) vs)) (hy:dF σ.g y=some (.y9 i o 0 n c)) (he:aX σ.d i=some (.dp (DE.M4 T e b) [.any pp,.rows A,.rows B,.any q] [])) (hvs:vs≠ []) (hB:B≠ []) (G1:Nat.blt 0 e.n=true)
  (hU:∀w,(underlying U).run F.P w= .ok (.slice T) w) (hE:∀w,(sizeOf T).run F.P w= .ok e.n w):JO F ⟨d,.call ⟨.value (.func f),#[x,y],ts⟩,ty,p,af,gd⟩ σ (.v Wr.bool false) []:=by
 have G1:1<=e.n:=by simpa[Nat.blt] using G1
 intro ρ S a w K;obtain⟨ad,X,z,_,h2⟩:=GW K (x:=x) (by simp[Op.operands,Call.operands]) hx;obtain⟨C,⟨cs,g2,g3⟩,g4,g5⟩:=Yn K (x:=y) (by simp[Op.operands,Call.operands]) hy he;obtain⟨b1,aa,ds,rfl,k1,k2,k3,k4⟩:=h2.resolve_left hvs;obtain⟨c',T',fr,k5,k6⟩:=k3;have D:=cR k4;have E:=pw.2 hvs;have G:0<ds.length:=by rw[D];exact Nat.mul_pos E G1
 have H:c'.size≠0:=by
  intro h0;have:=k6 0 G;rw[aBv (by omega)] at this;cases this
 have I:cs≠ []:=by
  rintro rfl;obtain⟨ab,_,h,_,ca,_,rfl,_,cb,_,rfl,h5,_⟩:=g3;have L:=cR h5;have M:=pw.2 hB;have:0<cb.length:=by rw[L];exact Nat.mul_pos M G1
  have N:=congrArg List.length h;simp only[sM,X3] at N;omega
 have O:=Sr (P:=F.P) (w:=w) (T:=T) (tS:=U) (tR:=R) (size:=e.n) (la:=vs.length) (ca:=X) (lb:=n) (cb:=c) (oa:=aa) (o:=o) hU hE (fun V=>k2 (by rw[V];exact g4)) g2 I k5 H;have u:=run_callFunc_extern hf aPq hb hn aZ7 #[a.eval x,a.eval y] w;rw[z,C] at u;rw[O] at u;refine WB.value (w':=w) (v:= .bool false) ?_ (YC.same (pJ _ ρ S w));have Q:(execOp a.eval ⟨d,.call ⟨.value (.func f),#[x,y],ts⟩,ty,p,af,gd⟩).run F.P w=(callFunc f #[a.eval x,a.eval y]).run F.P w:=by
  simp[execOp,resolve,invoke,Deferred.ofValue,Act.eval]
 rw[Q,z,C,u];rfl
def ins{α:Type}(xs:List α)(n:Int)(vs:List α):Option (List α):=if 0<=n/\n<=xs.length/\xs.length+vs.length<=4294967296 then some (xs.take n.toNat++(vs++xs.drop n.toNat)) else none
theorem HL{α:Type}{xs vs r:List α}{n:Int}(h:ins xs n vs=some r):0<=n/\n<=xs.length/\xs.length+vs.length<=4294967296/\r=xs.take n.toNat++(vs++xs.drop n.toNat):=by
 unfold ins at h;split at h
 ·rename_i u;exact⟨u.1,u.2.1,u.2.2,by cases h;rfl⟩
 ·cases h
theorem BD{v:Value}{S w u}:Wr.raw.val v S w u↔u=v/\v.oneCell'=true:=by
 constructor
 ·rintro⟨z,⟨rfl,h⟩,rfl⟩;exact⟨rfl,h⟩
 ·rintro⟨rfl,h⟩;exact⟨[u],⟨rfl,h⟩,rfl⟩
theorem DK{o n c:Nat}{E:TypeId}(hx:dF σ.g x=some (.y9 i o 0 n c))(hU:∀w,(underlying U).run F.P w= .ok (.slice E) w):JO F ⟨d,.call ⟨.builtin .cap,#[x],#[U]⟩,ty,p,af,gd⟩ σ (.v Wr.raw (.int .i64 (c:Int))) []:=by
 intro ρ S a w K;obtain⟨b,_,u⟩:=rT (K.slot x (by simp[Op.operands,Call.operands]) _ hx);refine WB.value (w':=w) (v:= .int .i64 (c:Int)) ?_ (YC.same (by simp only[Slot.ok];exact BD.2 ⟨rfl,rfl⟩));have h:(Builtin.cap_ #[U] ty #[.slice (some ⟨b,o,none⟩) n c]).run F.P w= .ok (.int .i64 c) w:=by simp[Builtin.cap_,hU,goInt]
 simp[execOp,resolve,invoke,builtin,u,h]
theorem DL{m n:Int}{T T':TypeId}(hx:dF σ.g x=some (.v (Wr.int .i64) m))(hy:dF σ.g y=some (.v Wr.raw (.int .i64 n))):JO F ⟨d,.binOp .gtr T x y T',ty,p,af,gd⟩ σ (.v Wr.bool (cm .gtr m n)) []:=by
 intro ρ S a w K;have u:=(fX K (x:=x) (by simp[Op.operands]) hx).1;have h:=K.slot y (by simp[Op.operands]) _ hy;simp only[Slot.ok] at h;have h:=(BD.1 h).1;refine WB.value (w':=w) (v:= .bool (cm .gtr m n)) ?_ (YC.same (pJ _ ρ S w));simp[execOp,u,h,eqGuard,Go.binOp,Op.intCmp,cm]
end
end Go.Sw
namespace Go.Sw
open Go Go.RowKit
def kp{α:Type}[DecidableEq α]:List α->α->Option Nat
 | [],_=>none
 |a::l,k=>if a=k then some 0 else (kp l k).map (·+1)
theorem HM{α:Type}[DecidableEq α]{k:α}:∀{l:List α} {i:Nat},kp l k=some i->i<l.length/\l[i]? =some k
 | [],i,h=>by simp[kp] at h
 |a::l,i,h=>by
  simp only[kp] at h;split at h
  ·rename_i u;cases h;simp[u]
  ·cases hr:kp l k with
   |none=>rw[hr] at h;cases h
   |some j=>rw[hr] at h;cases h;obtain⟨A,z⟩:=HM hr;exact⟨by simp;omega,by simpa using z⟩
theorem BE{α β:Type}[DecidableEq α]{k:α}:∀{m:List (α×β)},fQ m k=(kp (m.map (·.1)) k).bind fun i=>(m[i]?).map (·.2)
 | []=>rfl
 | (a,b)::m=>by
  simp only[fQ,H9,kp];split
  ·simp
  ·rw[BE (m:=m)];cases kp (m.map (·.1)) k<;>simp
def T5{α:Type}(e:Wr α)(S:Nat->Prop)(w:World):List α->List MapEntry->Prop
 | [],[]=>True
 |k::ks,x::xs=>e.val k S w x.key/\T5 e S w ks xs
 |_,_=>False
theorem T5.mono{α:Type}{e:Wr α}{S S':Nat->Prop}{w w':World}(k:Ext S S' w w'):∀{m:List α} {xs:List MapEntry},T5 e S w m xs->T5 e S' w' m xs
 | [],[],_=>trivial
 |_::_,_::_,⟨u,z⟩=>⟨gR u k,T5.mono k z⟩
 | [],_::_,h=>h.elim
 |_::_,[],h=>h.elim
theorem T5.len{α:Type}{e:Wr α}{S:Nat->Prop}{w:World}:∀{m:List α} {xs:List MapEntry},T5 e S w m xs->xs.length=m.length
 | [],[],_=>rfl
 |_::_,_::_,⟨_,u⟩=>by simp[u.len]
 | [],_::_,h=>h.elim
 |_::_,[],h=>h.elim
theorem T5.get{α:Type}{e:Wr α}{S:Nat->Prop}{w:World}:∀{m:List α} {xs:List MapEntry},T5 e S w m xs->∀{i:Nat} {k:α} {x:MapEntry},m[i]? =some k->xs[i]? =some x->e.val k S w x.key
 | [],[],_,i,k,x,h,_=>by simp at h
 |_::_,_::_,⟨z,A⟩,i,k,x,h,u=>by
  cases i with
  |zero=>simp at h u;subst h;subst u;exact z
  |succ i=>exact A.get (by simpa using h) (by simpa using u)
 | [],_::_,h,_,_,_,_,_=>h.elim
 |_::_,[],h,_,_,_,_,_=>h.elim
theorem T5.push{α:Type}{e:Wr α}{S:Nat->Prop}{w:World}{k:α}{x:MapEntry}(h1:e.val k S w x.key):∀{m:List α} {xs:List MapEntry},T5 e S w m xs->T5 e S w (m++[k]) (xs++[x])
 | [],[],_=>⟨h1,trivial⟩
 |_::_,_::_,⟨u,z⟩=>⟨u,T5.push h1 z⟩
 | [],_::_,h=>h.elim
 |_::_,[],h=>h.elim
theorem T5.modify{α:Type}{e:Wr α}{S:Nat->Prop}{w:World}{f:MapEntry->MapEntry}:∀{m:List α} {xs:List MapEntry} {i:Nat},T5 e S w m xs->(∀k x,m[i]? =some k->xs[i]? =some x->e.val k S w (f x).key)->T5 e S w m (xs.modify i f)
 | [],[],i,_,_=>by simp[T5]
 |_::_,_::_,i,⟨B,u⟩,h=>by
  cases i with
  |zero=>exact⟨h _ _ rfl rfl,u⟩
  |succ i=>exact⟨B,u.modify fun k x z A=>h k x (by simpa using z) (by simpa using A)⟩
 | [],_::_,_,h,_=>h.elim
 |_::_,[],_,h,_=>h.elim
theorem Uz{α:Type}[DecidableEq α]{n:Nat}{P:Program}{T:TypeId}{e:Wr α}(hn:n<=10000)(he:X5 n P T e){S S':Nat->Prop}{w1 w2:World}{k:α}{cs:List Value}(hk:e.ok k S' w2 cs)(w:World):
  ∀(m:List α) (es:List MapEntry) (i:Nat),T5 e S w1 m es->(Instr.findAsking T (e.pk cs) es i).run P w= .ok ((kp m k).bind fun j=>(es[j]?).map fun x=>(i+j,x.val)) w
 | [],[],i,_=>by simp[Instr.findAsking,kp]
 |a::m,x::xs,i,⟨⟨C,D,E⟩,F⟩=>by
  obtain⟨r,A,B⟩:=he 10000 hn w S' S w2 w1 k a cs C hk D;rw[<-E] at A;have z:(Op.equal T (e.pk cs) x.key).run P w= .ok r w:=A;cases r with
  |true=>
   have u:=B.1 rfl;simp[Instr.findAsking,z,kp,u]
  |false=>
   have u:¬a=k:=fun h=>by have:=B.2 h.symm;cases this
   have:=Uz hn he hk w m xs (i+1) F;simp only[Instr.findAsking,Sem.run_bind,z,Result.andThen_ok,T3,l7,this,kp,WV u];cases kp m k with
   |none=>rfl
   |some j=>simp[aDu,aDf 1 j]
 | [],_::_,_,h=>h.elim
 |_::_,[],_,h=>h.elim
theorem HN{α:Type}[DecidableEq α]{n l:Nat}{E:TypeId}{P:Program}{T:TypeId}{e:Wr α}(hn:n<=10000)(hT:∀w,(underlying T).run P w= .ok (.array l E) w)(he:X5 n P T e){S S':Nat->Prop}{w1 w2:World}{k:α}{cs:List Value}(hk:e.ok k S' w2 cs)(w:World)
  (m:List α) (es:List MapEntry) (h:T5 e S w1 m es):(Instr.findKey T (e.pk cs) es).run P w= .ok ((kp m k).bind fun j=>(es[j]?).map fun x=>(j,x.val)) w:=by
 match m,es,h with
 | [],[],_=>simp[Instr.findKey,hT,Instr.findNow,kp]
 |q::m,x::xs,h=>
  have u:=Uz hn he hk w (q::m) (x::xs) 0 h;simp only[aC4] at u;simp only[Instr.findKey,Sem.run_bind,hT,Result.andThen_ok,Instr.findNow,Instr.sameNow,u]
def iz{α:Type}(e:Wr α):Prop:=∀(x:α) (S S':Nat->Prop) (w w':World) (v v':Value),e.val x S w v->e.val x S' w' v'->Instr.sameBits 10000 v v'=true
theorem BF{k:IntKind}{S S':Nat->Prop}{w w':World}:∀{xs:List Int} {cs ds:List Value},(Wr.int k).ZK xs S w cs->(Wr.int k).ZK xs S' w' ds->ds=cs/\∀c∈cs,∃n,c= .int k n
 | [],_,_,h,z=>by simp only[Wr.ZK] at h z;subst h;subst z;exact⟨rfl,by simp⟩
 |x::xs,_,_,⟨c,d,A,F,G⟩,⟨H,M,I,K,L⟩=>by
  obtain⟨D,E⟩:=BF G L;have B:c=[.int k x]:=F.1;have C:H=[.int k x]:=K.1;subst B;subst C;subst D;refine⟨by rw[A,I],?_⟩;rw[A];intro q u;rcases N9.1 u with u | u
  ·exact⟨x,by simpa using u⟩
  ·exact E q u
theorem iz.arr{k:IntKind}{m:Nat}:iz (Wr.arr m (Wr.int k)):=by
 rintro x S F w G v H ⟨I,h,rfl⟩ ⟨C,D,rfl⟩;obtain⟨rfl,A⟩:=BF h.2 D.2;have B:∀l:List Value,(∀c∈l,∃n,c= .int k n)->(l.zip l).all (fun (x,y)=>Instr.sameBits 9999 x y)=true:=by
  intro l z;rw[o6];rintro⟨a,b⟩ u;have:a=b:=by
   clear z A
   induction l with
   |nil=>simp at u
   |cons y l E=>
    rcases q9.1 u with h | h
    ·simp only[R3] at h;rw[h.1,h.2]
    ·exact E h
  subst this;obtain⟨n,rfl⟩:=z a (List.of_mem_zip u).1;simp[Instr.sameBits]
 have:=B C A;simp only[Wr.pk,Wr.arr,l6];show Instr.sameBits (9999+1) _ _=true;simp only[Instr.sameBits,BEq.rfl,aEt];simpa using this
structure nq {α κ:Type} (fr:Bool) (ke:Wr κ) (T2:TypeId) (e:Wr α) (m:List (κ×List α)) (o:Option Nat) (S:Nat->Prop) (w:World) (x:Nat->Prop) (b:Nat) (es:List MapEntry) (ck:Nat):Prop where
 keys:T5 ke S w (m.map (·.1)) es
 rows:Rws T2 e (m.map (·.2)) o S w x (some b) (es.map (·.val))
 born:fr=true->ck=es.length/\∀(j:Nat) (q:MapEntry),es[j]? =some q->q.born=j
theorem nq.mono{α κ:Type}{fr:Bool}{ke:Wr κ}{T2:TypeId}{e:Wr α}{m:List (κ×List α)}{o:Option Nat}{S S':Nat->Prop}{w w':World}{x x':Nat->Prop}{b:Nat}{es:List MapEntry}{ck:Nat}
  (h:nq fr ke T2 e m o S w x b es ck) (hE:Ext S S' w w') (hx:∀b,x b->x' b) (hb:∀b,x b->w'.heap[b]? =w.heap[b]?):nq fr ke T2 e m o S' w' x' b es ck:=
 ⟨h.keys.mono hE,⟨h.rows.len,fun j xs q u A z=>(h.rows.ok j xs q u A z).mono hE (fun b B=>hb b (h.rows.own j q b u z B).1),fun j q k u A z=>⟨hx _ (h.rows.own j q k u A z).1,(h.rows.own j q k u A z).2⟩,h.rows.inj⟩,h.born⟩
def DE.W7{α κ:Type}(fr:Bool)(ke:Wr κ)(T2:TypeId)(e:Wr α):DE (List (κ×List α)×Option Nat) where
 ok q S w u l:=∃b z A,u.v= .map (some b)/\w.heap[b]? =some (.map z A)/\nq fr ke T2 e q.1 q.2 S w u.x b z.toList A/\∀j,q.2=some j->(z.toList.map (·.val))[j]? =l.head?
 mono:=by
  rintro q S I w K u l ⟨b,z,A,B,E,F,G⟩ H C;exact⟨b,z,A,B,by rw[C b (.inl (by rw[B];rfl))];exact E,F.mono H (fun _ h=>h) (fun D h=>C D (.inr h)),G⟩
def Ss{κ α:Type}[DecidableEq κ](m:List (κ×List α))(k:κ):Option (List (κ×List α)×Nat×List α):=
 if m.length<=140737488355328 then some (match kp (m.map (·.1)) k with | none=>(m++[(k,[])],m.length,[]) | some i=>(m,i,((m[i]?).map (·.2)).getD [])) else none
def wL{κ β:Type}(m:List (κ×β))(i:Nat)(v:β):List (κ×β):=m.modify i fun p=>(p.1,v)
theorem HO{κ β:Type}{m:List (κ×β)}{i:Nat}{v:β}:(wL m i v).map (·.1)=m.map (·.1):=by
 apply aCc;intro j;simp only[wL,ly,aB6];cases m[j]? <;>simp;split<;>rfl
theorem HP{κ β:Type}{m:List (κ×β)}{i:Nat}{v:β}:(wL m i v).map (·.2)=(m.map (·.2)).set i v:=by
 apply aCc;intro j;simp only[wL,ly,aB6,aCq,lx];by_cases u:j<m.length
 ·rw[F5 u];by_cases h:i=j<;>simp[h,u]
 ·rw[al (by omega)];by_cases h:i=j<;>simp[h];omega
def Wr.Y3{κ β:Type}(ke:Wr κ)(f:Wr β):Wr (List (κ×β)) where
 n:=1
 agg:=false
 ok m S w cs:=(m=[]/\cs=[.map none])\/∃b u z,cs=[.map (some b)]/\b<w.heap.size/\¬S b/\w.heap[b]? =some (.map u z)/\Xw ke f S w m u.toList
 len h:=by rcases h with⟨_,h⟩|⟨b,u,z,h,_⟩<;>rw[h]<;>rfl
 one _:=rfl
 cell h c hc:=by rcases h with⟨_,h⟩|⟨b,u,z,h,_⟩<;>rw[h] at hc<;>simp at hc<;>subst hc<;>rfl
 mono h k:=by
  rcases h with⟨h,C⟩|⟨b,u,z,D,A,B,E,F⟩
  ·exact .inl ⟨h,C⟩
  ·exact .inr ⟨b,u,z,D,T4 A k.size,(k.I9 b A B).2,by rw[(k.I9 b A B).1];exact E,zQ k F⟩
theorem Z.Y3{κ β:Type}(ke:Wr κ)(f:Wr β):∀S w,(Wr.Y3 ke f).ok [] S w [.map none]:=fun _ _=> .inl ⟨rfl,rfl⟩
section
variable {F:XO}{σ:AS}{d:Option Tmp}{ty:TypeId}{p:String}{af:Array Edge}{gd:Option (Nat×Bool)}{x y z:Operand}{κ α:Type}{ke:Wr κ}{e:Wr α}{T2:TypeId}{m:List (κ×List α)}{i j:Nat}
theorem Frz.W7{fr:Bool}:Frz (DE.W7 fr ke T2 e) (m,none) (Wr.Y3 ke (Wr.sl e)) m:=by
 rintro S S' w u ⟨b,H,ck,E,F,⟨h3,I,_⟩,_⟩ K L;have M:∀(A:List (κ×List α)) (el:List MapEntry),T5 ke S w (A.map (·.1)) el->(∀(j:Nat) (C:List α) (v:Value),(A.map (·.2))[j]? =some C->(el.map (·.val))[j]? =some v->j4 T2 e C S w v/\∀b,ZE v=some b->u.x b)->Xw ke (Wr.sl e) S' w A el:=by
  intro A
  induction A with
  |nil=>intro el z _;cases el with
   |nil=>trivial
   |cons q el=>exact z.elim
  |cons q A ih=>
   intro el z h;cases el with
   |nil=>exact z.elim
   |cons v el=>
    obtain⟨G,U⟩:=h 0 q.2 v.val rfl rfl;obtain⟨V,X⟩:=z;obtain⟨q1,q2⟩:=q;obtain⟨ad,c,hs⟩:=G.slice;refine⟨gR V K,⟨[v.val],Sd (ρ:=fun _=> .of undef) (u:= .of v.val) (T:=T2) G K fun b D=>L b (.inr (U b (pI.1 D))),by simp[Wr.pk,Wr.sl]⟩,ih el X fun j O P Q B=>h (j+1) O P (by simpa using Q) (by simpa using B)⟩
 have z:=M m H.toList h3 fun j C v R B=>⟨I.ok j C v (by simp) R B,fun b D=>(I.own j v b (by simp) B D).1⟩
 have N:b<w.heap.size:=by
  rcases N4 b w.heap.size with h | h
  ·exact h
  ·rw[aBv h] at F;cases F
 refine⟨.inr ⟨b,H,ck,by rw[E],N,L b (.inl (by rw[E];rfl)),F,z⟩,by rw[E];rfl⟩
theorem Va{T:TypeId}(i:Nat)(ke:Wr κ)(T2:TypeId)(e:Wr α):JO F ⟨d,.makeMap T none,ty,p,af,gd⟩ σ (.ref i) [(i,.dp (DE.W7 true ke T2 e) ([],none) [])]:=by
 intro ρ S a w K;refine WB.value (w':=w.alloc (.map #[] 0)) (v:= .map (some w.heap.size)) (by simp[execOp,Instr.makeMap]) ?_;refine zT (.map (some w.heap.size)) (lH _ _) rfl ?_ ?_ ?_
 ·intro b z;simp[ZE] at z;subst z;exact⟨YZ _,by simp⟩
 ·intro A ρ' h _;exact⟨_,#[],0,rfl,heap_alloc_new _ _,⟨trivial,⟨rfl,fun j xs q _ u=>by simp at u,fun j q k _ u=>by simp at u,fun j B q C k _ _ u=>by simp at u⟩,fun _=>⟨rfl,fun j q h=>by simp at h⟩⟩,fun j h=>by cases h⟩
 ·intro A ρ' _ hi _;simp only[Slot.ok];exact⟨by rw[hi];exact .inr ⟨_,rfl⟩,hi.symm⟩
theorem Yo{β:Type}[DecidableEq κ]{n n' l:Nat}{M KT VT E:TypeId}{f:Wr β}{m:List (κ×β)}{k:κ}{u:β}{zv:Value}(hx:dF σ.g x=some (.v (Wr.Y3 ke f) m))(hy:dF σ.g y=some (.v ke k))
  (hM:∀w,(underlying M).run F.P w= .ok (.map KT VT) w) (hT:∀w,(underlying KT).run F.P w= .ok (.array l E) w) (he:X5 n F.P KT ke) (hn:Nat.ble n 10000=true) (hk:s8 n' F.P KT ke) (J0:Nat.ble n' 10000=true)
  (hz:∀w,(zeroValue VT).run F.P w= .ok zv w) (fx:∀S w,f.val u S w zv):JO F ⟨d,.lookup M x y false,ty,p,af,gd⟩ σ (.v f ((fQ m k).getD u)) []:=by
 intro ρ S a w K;have z:=K.slot x (by simp[Op.operands]) _ hx;have h:=K.slot y (by simp[Op.operands]) _ hy;simp only[Slot.ok] at z h;obtain⟨G,h,C⟩:=h;obtain⟨V,z,H⟩:=z;rcases z with⟨rfl,rfl⟩|⟨b,L,X,rfl,_,_,R,T⟩
 ·have A:=hk 10000 (B3 J0) true w S w k G h;refine WB.value (w':=w) (v:=zv) ?_ (YC.same (by simp only[Slot.ok];exact fx _ _));have B:a.eval x= .map none:=H;simp[execOp,B,C,Instr.lookup,hM,A,hz,Instr.findKey,hT,Instr.findNow]
 ·have B:a.eval x= .map (some b):=H;obtain⟨r,I,N,O⟩:=Jf (B3 hn) hT he h w m L.toList T;have A:=hk 10000 (B3 J0) L.isEmpty w S w k G h;have D:=MapKept.run_getObj_map (P:=F.P) R;cases hm:fQ m k with
  |none=>
   have:=N hm;subst this;refine WB.value (w':=w) (v:=zv) ?_ (YC.same (by simp only[Slot.ok];exact fx _ _));simp[execOp,B,C,Instr.lookup,hM,D,A,I,hz]
  |some U=>
   obtain⟨j,v,rfl,Q⟩:=O U hm;refine WB.value (w':=w) (v:=v) ?_ (YC.same (by simp only[Slot.ok];exact Q));simp[execOp,B,C,Instr.lookup,hM,D,A,I]
theorem Vb[DecidableEq κ]{n n' l:Nat}{M KT VT E:TypeId}{k:κ}{r:List (κ×List α)×Nat×List α}(j:Nat)(hm:Ss m k=some r)(hx:dF σ.g x=some (.ref i))(hd:aX σ.d i=some (.dp (DE.W7 true ke T2 e) (m,none) []))(hy:dF σ.g y=some (.v ke k))
  (hM:∀w,(underlying M).run F.P w= .ok (.map KT VT) w) (hT:∀w,(underlying KT).run F.P w= .ok (.array l E) w) (he:X5 n F.P KT ke) (hn:Nat.ble n 10000=true) (hk:s8 n' F.P KT ke) (J0:Nat.ble n' 10000=true) (H6:iz ke)
  (hz:∀w,(zeroValue VT).run F.P w= .ok (.slice none 0 0) w) (hf:σ.free [(j,.arr T2 e r.2.2)]=true) (j8:gQ d F.N=true):
  JM F ⟨d,.mapEntry M x y,ty,p,af,gd⟩ σ ⟨iR d (.WU [.ref j,.v (Wr.int .i64) (r.2.1:Int)]) σ.g,(j,.arr T2 e r.2.2)::(i,.dp (DE.W7 true ke T2 e) (r.1,some r.2.1) [j])::σ.d⟩:=by
 rintro a w ⟨⟨ρ,hc,hs⟩,r8,ZG⟩;have K:=cK hc hs (Op.mapEntry M x y).operands;obtain⟨h1,⟨b,B,ck,h3,h4,A,_⟩,_⟩:=yT K (x:=x) (by simp[Op.operands]) hx hd;have U:=K.slot y (by simp[Op.operands]) _ hy;simp only[Slot.ok] at U;have ji:=U;obtain⟨cs,U,h7⟩:=U;have h8:=HN (B3 hn) hT he U w (m.map (·.1)) B.toList A.keys;have oz:=hk 10000 (B3 J0) false w _ w k cs U;have hg:=MapKept.run_getObj_map (P:=F.P) h4;have mu:=fun o=>MapKept.run_setObj_map (P:=F.P) o h4;have ei:=kY hf (i:=j) (en:= .arr T2 e r.2.2) (by simp[aX]);have C0:j≠i:=fun e=>by subst e;rw[ei.2.1] at hd;cases hd
 obtain⟨uh,dh⟩:=A.born rfl;have V:B.toList.length=m.length:=by simpa using A.keys.len
 unfold Ss at hm;split at hm
 case isFalse=>cases hm
 rename_i j1;have hm:=pT hm;obtain⟨G,aa,v,H7,G0,ua,a4,T,M8,a9⟩:∃(G:Array MapEntry) (aa:Nat) (v:Value),(execOp a.eval ⟨d,.mapEntry M x y,ty,p,af,gd⟩).run F.P w= .ok (.value (.tuple #[v,.int .i64 (r.2.1:Int)])) { w with heap:=w.heap.setIfInBounds b (.map G aa) }/\
   (∃a c,v= .slice a r.2.2.length c)/\(∀S' w',Ext (Un F.S0 ρ σ.d) S' w w'->T5 ke S' w' (r.1.map (·.1)) G.toList)/\G.toList.length=r.1.length/\(G.toList.map (·.val))[r.2.1]? =some v/\
   ((v= .slice none 0 0/\r.2.2=[]/\(∀q,q≠r.2.1->r.1[q]? =m[q]?/\(G.toList.map (·.val))[q]? =(B.toList.map (·.val))[q]?))\/(m[r.2.1]?.map (·.2)=some r.2.2/\r.1=m/\G.toList.map (·.val)=B.toList.map (·.val)))/\
   (aa=G.toList.length/\∀(j:Nat) (q:MapEntry),G.toList[j]? =some q->q.born=j):=by
  cases zd:kp (m.map (·.1)) k with
  |none=>
   rw[zd] at hm h8;simp only[Option.bind_none] at h8;simp only at hm;subst hm;refine⟨B.push { key:=a.eval y,val:= .slice none 0 0,born:=ck },ck+1,.slice none 0 0,?_,⟨none,0,rfl⟩,?_,?_,?_,.inl ⟨rfl,rfl,fun q z=>?_⟩,?_,?_⟩
   ·have:ck=m.length:=by rw[uh,V]
    simp[execOp,h1,h3,h7,Instr.mapEntry,hM,hg,oz,h8,mu,hz,goInt,this]
   ·intro S' w' L;rw[aDl,aCr];exact(A.keys.mono L).push (gR ji L)
   ·simp[V]
   ·simp[<-V]
   ·rw[aDl,aCr];have I:q≠m.length:=z;rcases N4 q m.length with h | h
    ·rw[aBu h,aBu (by simpa[V] using h)];exact⟨rfl,rfl⟩
    ·rw[al (by simp;omega),al (by omega),al (by simp at V ⊢;omega),al (by simp at V ⊢;omega)];exact⟨rfl,rfl⟩
   ·simp[uh]
   ·intro q x z;rw[aDl] at z;rcases N4 q B.toList.length with h | h
    ·rw[aBu h] at z;exact dh q x z
    ·rw[aDq h] at z;have h0:q - B.toList.length=0:=by
      rcases aEk (q - B.toList.length) with h | h
      ·exact h
      ·rw[al (by simp at h ⊢;omega)] at z;cases z
     rw[h0] at z;simp at z;subst z;show ck=q;omega
  |some q=>
   rw[zd] at hm h8;simp only at hm;subst hm;obtain⟨k1,k2⟩:=HM zd;have aq:q<m.length:=by simpa using k1
   have k3:q<B.toList.length:=by omega
   have ad:q<B.size:=by simpa using k3
   have k5:B.toList[q]? =some B[q]:=by simp[ad]
   simp only[cM,k5,rh] at h8;have k6:B[q]? =some B[q]:=aBt ad;have a5:ke.val k (Un F.S0 ρ σ.d) w B[q].key:=A.keys.get k2 k5;have a6:=H6 k _ _ _ _ _ _ a5 ji;have YN:(Instr.keyThatStays B[q].key (a.eval y)).run F.P w= .ok (a.eval y) w:=by simp[Instr.keyThatStays,a6]
   have il:=dh q _ k5;have iq:=A.rows.ok q (m[q].2) B[q].val (by simp) (by simp[aq]) (by simp[ad]);have au:m[q]? =some m[q]:=F5 aq;refine⟨B.modify q fun e=>{ e with key:=a.eval y },ck,B[q].val,?_,?_,?_,?_,?_,.inr ⟨?_,rfl,?_⟩,?_,?_⟩
   ·simp[execOp,h1,h3,h7,Instr.mapEntry,hM,hg,oz,h8,mu,goInt,k6,il];rw[<-h7,YN];simp[mu]
   ·simp only[au,rh,aCe];exact iq.slice
   ·intro S' w' L;rw[aCh];exact(A.keys.mono L).modify fun k' x a3 R=>by
     rw[k2] at a3;cases a3;exact gR ji L
   ·simpa using V
   ·rw[aCh,ly,aB6,k5];simp
   ·simp[au]
   ·rw[aCh];apply aCc;intro Q;simp only[ly,aB6];cases B.toList[Q]? <;>simp;split<;>rfl
   ·simpa using uh
   ·intro Q x' I;rw[aCh,aB6] at I;cases R:B.toList[Q]? with
    |none=>rw[R] at I;cases I
    |some y'=>
     rw[R] at I;have:=dh Q y' R;simp only[Option.map_eq_map,rh,B1] at I;subst I;split<;>exact this
 obtain⟨av,cv,ZW⟩:=G0;have G1:r.2.1<r.1.length:=by
  rw[<-a4];rcases N4 r.2.1 G.toList.length with h | h
  ·exact h
  ·rw[al (by simpa using h)] at T;cases T
 have a7:Db .i64 (r.2.1:Int):=by
  have:r.1.length<=m.length+1:=by
   rcases M8 with⟨_,_,h⟩|⟨_,h,_⟩
   ·rcases N4 (m.length+1) r.1.length with C | C
    ·have H:=(h (m.length) )
     have lj:=(h (m.length+1))
     by_cases lh:m.length=r.2.1
     ·have:=(lj (by omega)).1;rw[F5 C,al (by omega)] at this;cases this
     ·have:=(H lh).1;rw[F5 (by omega),al (by omega)] at this;cases this
    ·exact C
   ·rw[h];omega
  exact De (n:=r.2.1) (by omega)
 have n9:=MapKept.heap_set (o':= .map G aa) h4;have dg:m9 (some b) w { w with heap:=w.heap.setIfInBounds b (.map G aa) }:=⟨by simp,fun k _ hk=>n9.2 k (fun e=>hk (by rw[e])),rfl,rfl,rfl⟩
 refine WB.value H7 ?_;have A6:∀c,ZE v=some c->(ρ i).x c/\c≠b:=by
  intro c u;rcases M8 with⟨rfl,_⟩|⟨_,_,h⟩
  ·simp[ZE] at u
  ·rw[h] at T;obtain⟨k1,k2⟩:=A.rows.own _ v c (by simp) T u;exact⟨k1,fun e=>k2 (by rw[e])⟩
 let ρ':Nat->LV:=fun l=>if l=j then .of v else if l=i then ⟨(ρ i).v,fun b=>(ρ i).x b/\ZE v≠some b⟩ else ρ l
 have X:ρ' j= .of v:=XC rfl;have ri:ρ' i=⟨(ρ i).v,fun b=>(ρ i).x b/\ZE v≠some b⟩:=by show (if i=j then _ else _)=_;rw[WV (iu C0),XC rfl]
 have O:∀l,l≠j->l≠i->ρ' l=ρ l:=fun l h1 h2=>by show (if l=j then _ else _)=_;rw[WV h1,WV h2]
 have rv:∀l,l≠j->(ρ' l).v=(ρ l).v:=fun l h1=>by
  by_cases h2:l=i
  ·subst h2;rw[ri]
  ·rw[O l h1 h2]
 have hl:∀l en,aX ((j,.arr T2 e r.2.2)::(i,.dp (DE.W7 true ke T2 e) (r.1,some r.2.1) [j])::σ.d) l=some en->(l=j/\en= .arr T2 e r.2.2)\/(l=i/\en= .dp (DE.W7 true ke T2 e) (r.1,some r.2.1) [j])\/(l≠j/\l≠i/\aX σ.d l=some en):=by
  intro l en h;rcases Hu h with h |⟨h0,h⟩
  ·exact .inl h
  ·rcases Hu h with h |⟨A,h⟩
   ·exact .inr (.inl h)
   ·exact .inr (.inr ⟨h0,A,h⟩)
 have ZV:∀l en b,aX ((j,.arr T2 e r.2.2)::(i,.dp (DE.W7 true ke T2 e) (r.1,some r.2.1) [j])::σ.d) l=some en->qT (ρ' l) b->∃l0 ZJ,aX σ.d l0=some ZJ/\qT (ρ l0) b:=by
  intro l en b h u;rcases hl l en h with⟨rfl,rfl⟩|⟨rfl,rfl⟩|⟨A,U,h7⟩
  ·rw[X,pI] at u;exact⟨i,_,hd,.inr (A6 b u).1⟩
  ·rw[ri,Mz] at u;exact⟨l,_,hd,u.imp id And.left⟩
  ·rw[O l A U] at u;exact⟨l,en,h7,u⟩
 have zg:ZE (ρ i).v=some b:=by rw[h3];rfl
 have U6:∀b,qT (ρ' j) b->qT (ρ' i) b->False:=by
  intro b' u D;rw[X,pI] at u;rw[ri,Mz] at D;rcases D with D | D
  ·rw[zg] at D;exact(A6 b' u).2 (pT D).symm
  ·exact D.2 u
 have W8:∀l en b,l≠i->aX σ.d l=some en->qT (ρ l) b->¬qT (ρ' j) b/\¬qT (ρ' i) b:=by
  intro l en b a1 P5 u;refine⟨fun h=>?_,fun h=>?_⟩
  ·rw[X,pI] at h;exact a1 (hc.inj l i en _ b P5 hd u (.inr (A6 b h).1))
  ·rw[ri,Mz] at h;exact a1 (hc.inj l i en _ b P5 hd u (h.imp id And.left))
 obtain⟨q1,q2⟩:=hc.step dg (fun c u=>⟨i,_,hd,.inl (by rw[zg];exact u)⟩) (d':=(j,.arr T2 e r.2.2)::(i,.dp (DE.W7 true ke T2 e) (r.1,some r.2.1) [j])::σ.d) (ρ':=ρ') (fun l en b h u=> .inr (ZV l en b h u)) (by
  intro l l' en ab b h h' u D;rcases hl l en h with⟨rfl,rfl⟩|⟨rfl,rfl⟩|⟨g5,g6,g7⟩<;>rcases hl l' ab h' with⟨rfl,rfl⟩|⟨rfl,rfl⟩|⟨am,zp,an⟩
  ·rfl
  ·exact(U6 b u D).elim
  ·rw[O l' am zp] at D;exact((W8 l' ab b zp an D).1 u).elim
  ·exact(U6 b D u).elim
  ·rfl
  ·rw[O l' am zp] at D;exact((W8 l' ab b zp an D).2 u).elim
  ·rw[O l g5 g6] at u;exact((W8 l en b g6 g7 u).1 D).elim
  ·rw[O l g5 g6] at u;exact((W8 l en b g6 g7 u).2 D).elim
  ·rw[O l g5 g6] at u;rw[O l' am zp] at D;exact hc.inj l l' en ab b g7 an u D) (by
  intro L l en h;have H6:∀c,c≠b->(w.heap.setIfInBounds b (.map G aa))[c]? =w.heap[c]? :=n9.2;rcases hl l en h with⟨rfl,rfl⟩|⟨rfl,rfl⟩|⟨zo,wm,ap⟩
  ·rw[X];show j4 T2 e r.2.2 _ _ v;rcases M8 with⟨C,H,_⟩|⟨C,_,lj⟩
   ·exact .inl ⟨H,C⟩
   ·rw[lj] at T;refine(A.rows.ok r.2.1 r.2.2 v (by simp) (by simpa using C) T).mono L (fun c u=>H6 c (A6 c u).2)
  ·rw[ri];refine⟨b,G,aa,h3,n9.1,⟨ua _ _ L,⟨by simp[a4],?_,?_,?_⟩,fun _=>a9⟩,fun q z=>?_⟩
   ·intro q xs vq ho R z;have S7:q≠r.2.1:=fun e=>ho (by rw[e]);have:(m.map (·.2))[q]? =some xs/\(B.toList.map (·.val))[q]? =some vq:=by
     rcases M8 with⟨_,_,C⟩|⟨_,C,H⟩
     ·obtain⟨H,lj⟩:=C q S7;rw[lj] at z;rw[ly,H,<-ly] at R;exact⟨R,z⟩
     ·rw[C] at R;rw[H] at z;exact⟨R,z⟩
    exact(A.rows.ok q xs vq (by simp) this.1 this.2).mono L (fun c u=>H6 c fun e=>by
     have:=(A.rows.own q vq c (by simp) this.2 u).2;exact this (by rw[e]))
   ·intro q vq c ho z u;have S7:q≠r.2.1:=fun e=>ho (by rw[e]);have I:(B.toList.map (·.val))[q]? =some vq:=by
     rcases M8 with⟨_,_,C⟩|⟨_,C,H⟩
     ·rw[<-(C q S7).2];exact z
     ·rw[<-H];exact z
    obtain⟨k1,k2⟩:=A.rows.own q vq c (by simp) I u;refine⟨⟨k1,fun ah=>?_⟩,k2⟩;rcases M8 with⟨C,_⟩|⟨_,C,H⟩
    ·rw[C] at ah;simp[ZE] at ah
    ·rw[H] at T;exact S7 (A.rows.inj q r.2.1 vq v c (by simp) (by simp) I T u ah)
   ·intro q Q vq a2 c ho yw z ac u V3;have S7:q≠r.2.1:=fun e=>ho (by rw[e]);have a8:Q≠r.2.1:=fun e=>yw (by rw[e]);rcases M8 with⟨_,_,C⟩|⟨_,C,H⟩
    ·rw[(C q S7).2] at z;rw[(C Q a8).2] at ac;exact A.rows.inj q Q vq a2 c (by simp) (by simp) z ac u V3
    ·rw[H] at z ac;exact A.rows.inj q Q vq a2 c (by simp) (by simp) z ac u V3
   ·have:q=r.2.1:=by simpa using z.symm
    subst this;simp only[H9,aD2,List.head?_cons,X];exact T
  ·rw[O l zo wm]
   exact WA.VX (hc.own l en ap) L (fun q z=>rv q fun e'=>by subst e';exact ei.2.2 l en ap z) (fun c u=>H6 c fun e=>wm (hc.inj l i en _ c ap hd u (.inl (by rw[zg,e])))))
 refine⟨⟨ρ',q1,fun t s' S=>?_⟩,by rw[kZ,r8],by cases d<;>exact ZG⟩;have a0:∀t s,lk σ.g t=some s->s.ok ρ' (Un F.S0 ρ' ((j,.arr T2 e r.2.2)::(i,.dp (DE.W7 true ke T2 e) (r.1,some r.2.1) [j])::σ.d)) _ (a.tmps.getD t undef):=fun t s S=>
  Slot.VX s _ (hs t s S) q2 (fun q z=>rv q fun e'=>ei.1 t s S (e' ▸ z))
 cases d with
 |none=>exact a0 t s' S
 |some q=>
  simp only[iR] at S;have XI:q<a.tmps.size:=by rw[r8];exact B3 j8
  rw[lA a q _ t XI];rw[mG] at S;split at S
  ·rename_i A;cases S;rw[XC A];simp only[Slot.ok];refine⟨[v,.int .i64 (r.2.1:Int)],rfl,v,[.int .i64 (r.2.1:Int)],rfl,?_,_,[],rfl,?_,rfl⟩
   ·simp only[Slot.ok];exact⟨by rw[X];exact .inl ⟨_,_,_,ZW⟩,by rw[X];rfl⟩
   ·simp only[Slot.ok];exact vS.2 ⟨rfl,a7⟩
  ·rename_i A;rw[WV A];exact a0 t s' S
theorem MN[DecidableEq κ]{k:κ}{r:List (κ×List α)×Nat×List α}(h:Ss m k=some r):r.2.1<r.1.length:=by
 unfold Ss at h;split at h
 ·have h:=pT h;cases hk:kp (m.map (·.1)) k with
  |none=>rw[hk] at h;subst h;simp
  |some q=>rw[hk] at h;subst h;have:=(HM hk).1;simpa using this
 ·cases h
theorem Pp{M:TypeId}{ys:List α}{q:Nat}{ls:List Nat}(hq:q<m.length)(hx:dF σ.g x=some (.ref i))(hd:aX σ.d i=some (.dp (DE.W7 true ke T2 e) (m,some q) ls))(hy:dF σ.g y=some (.v (Wr.int .i64) (q:Int)))(hz:dF σ.g z=some (.ref j))(hj:aX σ.d j=some (.arr T2 e ys))(ZI:Nat.beq i j=false):
  JM F ⟨none,.entryStore M x y z,ty,p,af,gd⟩ σ ⟨σ.g,(i,.dp (DE.W7 true ke T2 e) (wL m q ys,none) [])::wK σ.d j⟩:=by
 have C0:i≠j:=fun e=>by subst e;simp at ZI
 rintro a w ⟨⟨ρ,H,hs⟩,r8,ZG⟩;have K:=cK H hs (Op.entryStore M x y z).operands;obtain⟨h1,⟨b,E,ck,h3,h4,L,_⟩,_⟩:=yT K (x:=x) (by simp[Op.operands]) hx hd;have h6:=(fX K (x:=y) (by simp[Op.operands]) hy).1;obtain⟨h7,iq,_⟩:=yT K (x:=z) (by simp[Op.operands]) hz hj;have iq:j4 T2 e ys (Un F.S0 ρ σ.d) w (ρ j).v:=iq;obtain⟨uh,dh⟩:=L.born rfl;have ah:E.toList.length=m.length:=by simpa using L.keys.len
 have S:q<E.size:=by
  have:E.toList.length=E.size:=by simp
  omega
 have hg:=MapKept.run_getObj_map (P:=F.P) h4;have mu:=fun o=>MapKept.run_setObj_map (P:=F.P) o h4;have il:∀(j:Nat) (h:j<E.size),E[j].born=j:=fun j h=>dh j _ (by simp[h]);have am:E.findIdx? (fun e=>(e.born:Int)==(q:Int))=some q:=by
  rw[Array.findIdx?_eq_some_iff_getElem];exact⟨S,by simp[il q S],fun j hj=>by simp[il j (by omega)];omega⟩
 obtain⟨N,ue⟩:∃N,N=E.modify q fun e=>{ e with val:=(ρ j).v }:=⟨_,rfl⟩
 have H7:(execOp a.eval ⟨none,.entryStore M x y z,ty,p,af,gd⟩).run F.P w= .ok .skip { w with heap:=w.heap.setIfInBounds b (.map N ck) }:=by
  simp only[execOp,h1,h3,h6,h7,Instr.entryStore,Sem.run_bind,hg,Result.andThen_ok,asInt,asIntOf,Sem.run_pure,am,mu,ue]
 have mq:N.toList.map (·.val)=(E.toList.map (·.val)).set q (ρ j).v:=by
  rw[ue,aCh];apply aCc;intro B;simp only[ly,aB6,aCq,lx];by_cases I:B<E.toList.length
  ·rw[F5 I];by_cases hi:q=B<;>simp[hi];omega
  ·rw[al (by omega)];by_cases hi:q=B<;>simp[hi];simp at I;omega
 have ua:∀S' w',T5 ke S' w' (m.map (·.1)) E.toList->T5 ke S' w' (m.map (·.1)) N.toList:=by
  intro S' w' h;rw[ue,aCh];refine T5.modify h fun k x hk C=>?_;have:=h.get hk C;exact this
 have n9:=MapKept.heap_set (o':= .map N ck) h4;have dg:m9 (some b) w { w with heap:=w.heap.setIfInBounds b (.map N ck) }:=⟨by simp,fun k _ hk=>n9.2 k (fun e=>hk (by rw[e])),rfl,rfl,rfl⟩
 have zg:ZE (ρ i).v=some b:=by rw[h3];rfl
 have ab:∀c,qT (ρ j) c->c≠b:=fun c R0 e=>C0 (H.inj i j _ _ c hd hj (.inl (by rw[zg,e])) R0);refine WB.skip H7 ?_;let ρ':Nat->LV:=fun l=>if l=i then ⟨(ρ i).v,fun b=>(ρ i).x b\/qT (ρ j) b⟩ else ρ l
 have ri:ρ' i=⟨(ρ i).v,fun b=>(ρ i).x b\/qT (ρ j) b⟩:=XC rfl;have Q:∀l,l≠i->ρ' l=ρ l:=fun l h=>WV h;have rv:∀l,(ρ' l).v=(ρ l).v:=fun l=>by
  by_cases h2:l=i
  ·subst h2;rw[ri]
  ·rw[Q l h2]
 have hl:∀l A,aX ((i,.dp (DE.W7 true ke T2 e) (wL m q ys,none) [])::wK σ.d j) l=some A->(l=i/\A= .dp (DE.W7 true ke T2 e) (wL m q ys,none) [])\/(l≠i/\l≠j/\aX σ.d l=some A):=by
  intro l A h;rcases Hu h with h |⟨h0,h⟩
  ·exact .inl h
  ·rw[Lq] at h;split at h
   ·cases h
   ·rename_i h6;exact .inr ⟨h0,h6,h⟩
 have ZV:∀l A b,aX ((i,.dp (DE.W7 true ke T2 e) (wL m q ys,none) [])::wK σ.d j) l=some A->qT (ρ' l) b->∃l0 ZJ,aX σ.d l0=some ZJ/\qT (ρ l0) b:=by
  intro l A b h u;rcases hl l A h with⟨rfl,rfl⟩|⟨h6,_,h7⟩
  ·rw[ri,Mz] at u;rcases u with u | u | u
   ·exact⟨l,_,hd,.inl u⟩
   ·exact⟨l,_,hd,.inr u⟩
   ·exact⟨j,_,hj,u⟩
  ·rw[Q l h6] at u;exact⟨l,A,h7,u⟩
 have M8:∀l A b,l≠i->l≠j->aX σ.d l=some A->qT (ρ l) b->¬qT (ρ' i) b:=by
  intro l A b ac an P5 u h;rw[ri,Mz] at h;rcases h with h | h | h
  ·exact ac (H.inj l i A _ b P5 hd u (.inl h))
  ·exact ac (H.inj l i A _ b P5 hd u (.inr h))
  ·exact an (H.inj l j A _ b P5 hj u h)
 obtain⟨U,V⟩:=H.step dg (fun c u=>⟨i,_,hd,.inl (by rw[zg];exact u)⟩) (d':=(i,.dp (DE.W7 true ke T2 e) (wL m q ys,none) [])::wK σ.d j) (ρ':=ρ') (fun l A b h u=> .inr (ZV l A b h u)) (by
  intro l l' A aa b g g' u YJ;rcases hl l A g with⟨rfl,rfl⟩|⟨g6,g7,g8⟩<;>rcases hl l' aa g' with⟨rfl,rfl⟩|⟨zp,ap,ad⟩
  ·rfl
  ·rw[Q l' zp] at YJ;exact(M8 l' aa b zp ap ad YJ u).elim
  ·rw[Q l g6] at u;exact(M8 l A b g6 g7 g8 u YJ).elim
  ·rw[Q l g6] at u;rw[Q l' zp] at YJ;exact H.inj l l' A aa b g8 ad u YJ) (by
  intro hE l A g;have H6:∀c,c≠b->(w.heap.setIfInBounds b (.map N ck))[c]? =w.heap[c]? :=n9.2;rcases hl l A g with⟨rfl,rfl⟩|⟨g6,g7,g8⟩
  ·rw[ri];refine⟨b,N,ck,h3,n9.1,⟨?_,⟨?_,fun B xs v _ C D=>?_,fun B v c _ D u=>?_,fun U V v1 v2 c _ _ X R L0 V3=>?_⟩,fun _=>⟨by rw[ue];simpa using uh,fun B x' I=>?_⟩⟩,fun q hq=>by cases hq⟩
   ·show T5 ke _ _ ((wL m q ys).map (·.1)) _;rw[HO];exact ua _ _ (L.keys.mono hE)
   ·rw[mq];simp[wL];simpa using ah
   ·have C:((wL m q ys).map (·.2))[B]? =some xs:=C;rw[HP] at C;rw[mq] at D;by_cases O:B=q
    ·subst O;have T:xs=ys:=by simpa[aCq,hq] using C.symm
     have G:v=(ρ j).v:=by
      rw[aBz (by simpa using S)] at D;exact(pT D).symm
     subst T;subst G;exact iq.mono hE (fun c u=>H6 c (ab c (.inl u)))
    ·rw[vh (iu O)] at C D;refine(L.rows.ok B xs v (by simpa using fun e=>O e.symm) C D).mono hE (fun c u=>H6 c fun e=>?_);exact(L.rows.own B v c (by simpa using fun e=>O e.symm) D u).2 (by rw[e])
   ·rw[mq] at D;by_cases O:B=q
    ·subst O;rw[aBz (by simpa using S)] at D;have G:=pT D;subst G;exact⟨.inr (.inl u),fun e=>ab c (.inl u) (pT e).symm⟩
    ·rw[vh (iu O)] at D;obtain⟨k1,k2⟩:=L.rows.own B v c (by simpa using fun e=>O e.symm) D u;exact⟨.inl k1,k2⟩
   ·rw[mq] at X R;by_cases T:U=q
    ·subst T;rw[aBz (by simpa using S)] at X;have e3:=pT X;subst e3;by_cases G:V=U
     ·exact G.symm
     ·rw[vh (iu G)] at R;obtain⟨k1,_⟩:=L.rows.own V v2 c (by simpa using fun e=>G e.symm) R V3;exact(C0 (H.inj l j _ _ c hd hj (.inr k1) (.inl L0))).elim
    ·rw[vh (iu T)] at X;by_cases G:V=q
     ·subst G;rw[aBz (by simpa using S)] at R;have e3:=pT R;subst e3;obtain⟨k1,_⟩:=L.rows.own U v1 c (by simpa using fun e=>T e.symm) X L0;exact(C0 (H.inj l j _ _ c hd hj (.inr k1) (.inl V3))).elim
     ·rw[vh (iu G)] at R;exact L.rows.inj U V v1 v2 c (by simpa using fun e=>T e.symm) (by simpa using fun e=>G e.symm) X R L0 V3
   ·rw[ue,aCh,aB6] at I;cases C:E.toList[B]? with
    |none=>rw[C] at I;cases I
    |some y'=>
     rw[C] at I;have:=dh B y' C;simp only[Option.map_eq_map,rh,B1] at I;subst I;split<;>exact this
  ·rw[Q l g6]
   exact WA.VX (H.own l A g8) hE (fun q _=>rv q) (fun c u=>H6 c fun e=>g6 (H.inj l i A _ c g8 hd u (.inl (by rw[zg,e])))))
 exact⟨⟨ρ',U,fun t s ht=>Slot.VX s _ (hs t s ht) V (fun q _=>rv q)⟩,r8,ZG⟩
end
end Go.Sw
namespace Go.Sw
open Go Go.RowKit
section
variable {F:XO}{σ σ':AS}{ops:Array Oper}{OK:List (Nat×WA)->Prop}{os:List Oper}{its:List ZO}{d:Option Tmp}{ty:TypeId}{p:String}{af:Array Edge}{gd:Option (Nat×Bool)}{x y z:Operand}{κ α:Type}{ke:Wr κ}{e:Wr α}{T2:TypeId}{m:List (κ×List α)}{i:Nat}
theorem XZ.mapEntry[DecidableEq κ]{n n' l:Nat}{M KT VT E:TypeId}{k:κ}{r:List (κ×List α)×Nat×List α}(g:GK ops σ.g ⟨d,.mapEntry M x y,ty,p,af,gd⟩ true)(j:Nat)(hm:Ss m k=some r)(hx:dF σ.g x=some (.ref i))(hd:aX σ.d i=some (.dp (DE.W7 true ke T2 e) (m,none) []))(hy:dF σ.g y=some (.v ke k))
  (hM:∀w,(underlying M).run F.P w= .ok (.map KT VT) w) (hT:∀w,(underlying KT).run F.P w= .ok (.array l E) w) (he:X5 n F.P KT ke) (hn:Nat.ble n 10000=true) (hk:s8 n' F.P KT ke) (J0:Nat.ble n' 10000=true) (H6:iz ke)
  (hz:∀w,(zeroValue VT).run F.P w= .ok (.slice none 0 0) w) (_:σ.free [(j,.arr T2 e r.2.2)]=true) (j8:gQ d F.N=true)
  (k:XZ F ops OK os ⟨iR d (.WU [.ref j,.v (Wr.int .i64) (r.2.1:Int)]) σ.g,(j,.arr T2 e r.2.2)::(i,.dp (DE.W7 true ke T2 e) (r.1,some r.2.1) [j])::σ.d⟩ its σ'):
  XZ F ops OK (⟨d,.mapEntry M x y,ty,p,af,gd⟩::os) σ (⟨.WU [.ref j,.v (Wr.int .i64) (r.2.1:Int)],[(j,.arr T2 e r.2.2),(i,.dp (DE.W7 true ke T2 e) (r.1,some r.2.1) [j])],[(j,.arr T2 e r.2.2)],Ld σ.g ⟨d,.mapEntry M x y,ty,p,af,gd⟩,[]⟩::its) σ':=
 .mv (nw:=[(j,.arr T2 e r.2.2),(i,.dp (DE.W7 true ke T2 e) (r.1,some r.2.1) [j])]) (dl:=[]) g j8 (fun σ2 h u=>Vb j hm ((h.ev (by simp[Op.operands])).trans hx) ((h.C6 (x:=x) (by simp[Op.operands]) hx (by simp[Slot.YS])).trans hd) ((h.ev (by simp[Op.operands])).trans hy) hM hT he hn hk J0 H6 hz u j8) k
end
def kJ:Wr Unit where
 n:=0
 agg:=true
 ok _ _ _ cs:=cs=[]
 len h:=by rw[h];rfl
 one h:=by cases h
 cell h c hc:=by rw[h] at hc;simp at hc
 mono h _:=h
theorem Ng{F:XO}{σ:AS}{o:Oper}{new:List (Nat×WA)}(h:JO F o σ (.agg []) new):JO F o σ (.v kJ ()) new:=by
 intro ρ S a w K;refine(h ρ S a w K).mono ?_;rintro v G ⟨ρ',C,D,z,E⟩;refine⟨ρ',C,D,?_,E⟩;simp only[Slot.ok] at z ⊢;obtain⟨A,B,u⟩:=z;have u:A=[]:=u;subst u;exact⟨[],rfl,B⟩
def MO:Wr Unit where
 n:=1
 agg:=false
 ok _ _ _ cs:=cs=[.nilIface]
 len h:=by rw[h];rfl
 one _:=rfl
 cell h c hc:=by rw[h] at hc;simp at hc;subst hc;rfl
 mono h _:=h
def vU{α β:Type}(T:TypeId)(e:Wr α)(r:Wr β)(hn:r.n=1)(_ha:r.agg=false):Wr (α ⊕ β) where
 n:=1
 agg:=false
 ok q S w cs:=match q with | .inl x=>∃u,cs=[.iface T (e.pk u)]/\e.ok x S w u | .inr y=>r.ok y S w cs
 len {q S w cs} h:=by
  cases q with
  |inl x=>obtain⟨u,h,_⟩:=h;rw[h];rfl
  |inr y=>rw[r.len h,hn]
 one _:=rfl
 cell {q S w cs} h:=by
  cases q with
  |inl x=>obtain⟨u,h,_⟩:=h;intro c z;rw[h] at z;simp at z;subst z;rfl
  |inr y=>exact r.cell h
 mono {q S S' w w' cs} h k:=by
  cases q with
  |inl x=>obtain⟨u,h,A⟩:=h;exact⟨u,h,e.mono A k⟩
  |inr y=>exact r.mono h k
def dm{α β:Type}(T:TypeId)(e:Wr α)(z:α)(f:Wr β)(q:β):Prop:=∀S w v,e.val z S w v->f.val q S w (.iface T v)
theorem dm.here{α β:Type}{T:TypeId}{e:Wr α}{z:α}{r:Wr β}{hn:r.n=1}{ha:r.agg=false}:dm T e z (vU T e r hn ha) (.inl z):=by
 rintro S w v ⟨u,h,rfl⟩;exact⟨_,⟨u,rfl,h⟩,rfl⟩
theorem dm.there{α β γ:Type}{T T':TypeId}{e:Wr α}{e':Wr γ}{z:α}{r:Wr β}{hn:r.n=1}{ha:r.agg=false}{q:β}(h:dm T e z r q):dm T e z (vU T' e' r hn ha) (.inr q):=by
 intro S w v u;obtain⟨A,B,C⟩:=h S w v u;exact⟨A,B,by rw[C];simp[Wr.pk,vU,ha]⟩
section
variable {F:XO}{σ:AS}{d:Option Tmp}{ty:TypeId}{p:String}{af:Array Edge}{gd:Option (Nat×Bool)}{x:Operand}
theorem Hy{α β:Type}{T:TypeId}{fs:Array Field}{e:Wr α}{z:α}{f:Wr β}{q:β}(hx:dF σ.g x=some (.v e z))(hT:∀w,(underlying T).run F.P w= .ok (.struct fs) w)(hI:dm T e z f q):JO F ⟨d,.makeInterface T x,ty,p,af,gd⟩ σ (.v f q) []:=by
 intro ρ S a w K;have h:=K.slot x (by simp[Op.operands]) _ hx;simp only[Slot.ok] at h;refine WB.value (w':=w) (v:= .iface T (a.eval x)) ?_ (YC.same (by simp only[Slot.ok];exact hI _ _ _ h));simp[execOp,Instr.makeInterface,hT]
end
def y6{β:Type}(P:Program)(name:String)(f:Wr β)(q:β)(ss:List Slot)(res:Slot)(new:List (Nat×WA)):Prop:=
 ∀S w v,f.val q S w v->∃T u g s0,v= .iface T u/\(∀w,(method (P.types.size+Made.depth) T u name).run P w= .ok (g,u) w)/\(∀args w,(callFunc g args).run P w= .ok (.enter g args) w)/\(∀ρ,Slot.ok ρ S w s0 u)/\WL P g (s0::ss) res new
section
variable {P:Program}{name:String}{ss:List Slot}{res:Slot}{new:List (Nat×WA)}
theorem y6.here{α β:Type}{T:TypeId}{g:FuncId}{e:Wr α}{z:α}{r:Wr β}{hn:r.n=1}{ha:r.agg=false}(hm:∀u w,(method (P.types.size+Made.depth) T u name).run P w= .ok (g,u) w)(hc:∀args w,(callFunc g args).run P w= .ok (.enter g args) w)
  (h:WL P g (.v e z::ss) res new):y6 P name (vU T e r hn ha) (.inl z) ss res new:=by
 rintro S w v ⟨C,⟨A,rfl,B⟩,rfl⟩;exact⟨T,e.pk A,g,.v e z,rfl,hm _,hc,fun ρ=>by simp only[Slot.ok];exact⟨A,B,rfl⟩,h⟩
theorem y6.there{β γ:Type}{T':TypeId}{e':Wr γ}{r:Wr β}{hn:r.n=1}{ha:r.agg=false}{q:β}(h:y6 P name r q ss res new):y6 P name (vU T' e' r hn ha) (.inr q) ss res new:=by
 rintro S w v ⟨u,z,rfl⟩;exact h S w _ ⟨u,z,by simp[Wr.pk,vU,ha]⟩
end
section
variable {F:XO}{σ:AS}{d:Option Tmp}{ty:TypeId}{p:String}{af:Array Edge}{gd:Option (Nat×Bool)}{x:Operand}
theorem DM{β:Type}{name:String}{f:Wr β}{q:β}{xs:List Operand}{ts:Array TypeId}{ss:List Slot}{res:Slot}(hx:dF σ.g x=some (.v f q))(hc:y6 F.P name f q ss res [])(ha:R8 σ false xs ss):
  JO F ⟨d,.call ⟨.invoke x name,xs.toArray,ts⟩,ty,p,af,gd⟩ σ res []:=by
 intro ρ S a w K;have z:=K.slot x (by simp[Op.operands,Call.operands]) _ hx;simp only[Slot.ok] at z;obtain⟨T,u,g,I,C,D,E,G,H⟩:=hc _ _ _ z;have A:=ha.spec (ys:=(Op.call ⟨.invoke x name,xs.toArray,ts⟩).operands) (by intro x hx;simp[Op.operands,Call.operands,hx]) K;have B:(execOp a.eval ⟨d,.call ⟨.invoke x name,xs.toArray,ts⟩,ty,p,af,gd⟩).run F.P w= .ok (.enter g (u::xs.map a.eval).toArray) w:=by
  simp[execOp,resolve,C,invoke,callMethod,D,E];exact aCa (by simp)
 refine WB.enter B ?_;refine(H S w _ ρ K.low (by simp only[aW];exact⟨u,_,rfl,G ρ,A⟩)).mono ?_;rintro e L ⟨v,rfl,h⟩;exact⟨v,rfl,h⟩
end
end Go.Sw
namespace Go.Sw
open Go Go.RowKit
def vB{α β:Type}(o:Option α)(n:Option β)(s:α->Option β):Option β:=match o with | none=>n | some z=>s z
theorem vV{α β:Type}{o:Option α}{n:Option β}{s:α->Option β}{r:β}(h:o=none)(k:vB o n s=some r):n=some r:=by subst h;exact k
theorem vW{α β:Type}{o:Option α}{n:Option β}{s:α->Option β}{r:β}{z:α}(h:o=some z)(k:vB o n s=some r):s z=some r:=by subst h;exact k
section
variable {F:XO}{σ:AS}{d:Option Tmp}{ty:TypeId}{p:String}{af:Array Edge}{gd:Option (Nat×Bool)}{x:Operand}
end
section
variable {F:XO}{ops:Array Oper}{OK:List (Nat×WA)->Prop}{os:List Oper}{σ σ2 σ':AS}{its:List ZO}{d:Option Tmp}{ty:TypeId}{p:String}{af:Array Edge}{gd:Option (Nat×Bool)}{o:Oper}
theorem Arg.loc{x:Operand}{s:Slot}{l:Bool}(h:Arg σ l x s)(hL:Loc ops o σ σ2)(hm:x∈o.op.operands):Arg σ2 l x s:=fun ρ S a w K=>
 h ρ S a w ⟨K.low,fun y u s z=>K.slot y u s (by
  have:y=x:=by simpa using u
  subst this;rw[hL.ev hm];exact z),fun y u s z i A B C=>K.C6 y u s (by
   have:y=x:=by simpa using u
   subst this;rw[hL.ev hm];exact z) i A B (by
    have:y=x:=by simpa using u
    subst this;rw[hL.C6 hm z A];exact C)⟩
theorem B5.loc{r:Nat->Nat}{xs:List Operand}{l:List Slot}(h:B5 σ r xs l)(hL:Loc ops o σ σ2)(hm:∀x∈xs,x∈o.op.operands):B5 σ2 r xs l:=by
 induction h with
 |nil=>exact .nil
 |cons z _ A=>exact .cons (z.loc hL (hm _ ao)) (A fun x u=>hm x (aj _ u))
theorem B2.loc{r A:Nat->Nat}{ds:List (Nat×WA)}(h:B2 σ r A ds)(hd:∀l∈ds.map (fun x=>r x.1),aX σ2.d l=aX σ.d l):B2 σ2 r A ds:=by
 induction h with
 |nil=>exact .nil
 |box z _ B=>exact .box (by rw[hd _ (by simp)];exact z) (B fun l u=>hd l (by simp at u ⊢;exact .inr u))
 |arr z _ B=>exact .arr (by rw[hd _ (by simp)];exact z) (B fun l u=>hd l (by simp at u ⊢;exact .inr u))
 |mp z _ B=>exact .mp (by rw[hd _ (by simp)];exact z) (B fun l u=>hd l (by simp at u ⊢;exact .inr u))
 |dp z _ B=>exact .dp (by rw[hd _ (by simp)];exact z) (B fun l u=>hd l (by simp at u ⊢;exact .inr u))
theorem ZM.loc{r A:Nat->Nat}{ds D:List (Nat×WA)}{K:List Nat}(h:ZM σ r A ds D K)(hd:∀l∈K,aX σ2.d l=aX σ.d l):ZM σ2 r A ds D K:=by
 induction h with
 |nil=>exact .nil
 |box C _ u z=>exact .box (by rw[hd _ ao];exact C) (z fun l B=>hd l (aj _ B)) u
 | V5 _ u z=>exact .V5 (z hd) u
 |arr _ u z=>exact .arr (z hd) u
 |mp _ u z=>exact .mp (z hd) u
 |dp _ u z=>exact .dp (z hd) u
theorem XZ.J8{f:FuncId}{xs:List Operand}{ts:Array TypeId}{ss:List Slot}{res:Slot}{YM WJ:(Nat->Nat)->List (Nat×WA)}{D:List (Nat×WA)}{K H:List Nat}(g:GK ops σ.g ⟨d,.call ⟨.value (.func f),xs.toArray,ts⟩,ty,p,af,gd⟩ true)(r:Nat->Nat)(hr:∀i j,r i=r j->i=j)
  (hc:∀A,VZ F.P f ss (YM A) res (WJ A)) (YE:∀args w,(callFunc f args).run F.P w= .ok (.enter f args) w) (ha:B5 σ r xs ss) (B9:∀A,B2 σ r A (YM A)) (E7:∀A,ZM σ r A (WJ A) D K)
  (hH:∀A,(YM A).map (fun x=>r x.1)=H) (hDK:D.all (fun x=> !iF x.1 H || iF x.1 K)=true) (_:Pn σ H D=true) (YX:∀A,lB res (WJ A)=true) (jk:K.all (fun k=>iF k H)=true) (j8:gQ d F.N=true)
  (k:XZ F ops OK os ⟨iR d (res.map r) σ.g,D++iY σ.d H⟩ its σ'):
  XZ F ops OK (⟨d,.call ⟨.value (.func f),xs.toArray,ts⟩,ty,p,af,gd⟩::os) σ (⟨res.map r,D,D.filter (fun x=> !iF x.1 H),Ld σ.g ⟨d,.call ⟨.value (.func f),xs.toArray,ts⟩,ty,p,af,gd⟩++H,H⟩::its) σ':=by
 refine .mvx (nw:=D) (fr:=D.filter (fun x=> !iF x.1 H)) (dl:=H) (ex:=H) g j8 (fun σ2 M I O=>?_) k;have L:∀x∈D,iF x.1 H=true->iF x.1 K=true:=fun x h C=>by
  have:=o6.1 hDK x h;simpa[C] using this
 refine sW r hr hc YE (ha.loc M fun x h=>by simp[Op.operands,Call.operands,h]) (fun A=>(B9 A).loc fun l z=>I l (by rw[<-hH A];exact z)) (fun A=>(E7 A).loc fun l z=>I l (jB.1 (o6.1 jk l z))) hH ?_ ?_ YX jk j8
 ·have E:∀l,(!iF l H || iF l K || !iF l (D.map (·.1)))=true:=by
   intro l;cases u:iF l H with
   |false=>simp
   |true=>
    cases h2:iF l (D.map (·.1)) with
    |false=>simp
    |true=>
     obtain⟨x,h,rfl⟩:=dj.1 (jB.1 h2);simp[L x h u]
  unfold Bf;simp only[G7,o6];exact⟨fun y _ l _=>E l,fun y _ l _=>E l⟩
 ·unfold Pn;rw[o6];intro x h;cases C:iF x.1 H with
  |true=>simp
  |false=>
   have u:=o6.1 O x (aCj.2 ⟨h,by simp[C]⟩);simp only[G7,o6] at u;have G:∀l:List Nat,(!l.contains x.1)=true->(!iF x.1 l)=true:=by
    intro l z;cases h2:iF x.1 l with
    |false=>rfl
    |true=>have:=jB.1 h2;simp at z;exact absurd this z
   simp only[aCi,G7,o6];exact .inr ⟨fun y B=>⟨(u.2 y B).1,G _ (u.2 y B).2⟩,fun y B=>G _ (u.1 y B)⟩
end
end Go.Sw
namespace Go.Sw
open Go Go.RowKit
def Gm{κ β:Type}[DecidableEq κ](m:List (κ×β))(k:κ):List (κ×β):=match kp (m.map (·.1)) k with | some q=>m.eraseIdx q | none=>m
section
variable {F:XO}{σ:AS}{d:Option Tmp}{ty:TypeId}{p:String}{af:Array Edge}{gd:Option (Nat×Bool)}{x y z:Operand}{κ α:Type}{ke:Wr κ}{e:Wr α}{T2:TypeId}{m:List (κ×List α)}{i j:Nat}{fr:Bool}
end
section
variable {F:XO}{σ σ':AS}{ops:Array Oper}{OK:List (Nat×WA)->Prop}{os:List Oper}{its:List ZO}{d:Option Tmp}{ty:TypeId}{p:String}{af:Array Edge}{gd:Option (Nat×Bool)}{x y:Operand}{κ α:Type}{ke:Wr κ}{e:Wr α}{T2:TypeId}{m:List (κ×List α)}{i:Nat}{fr:Bool}
end
end Go.Sw
namespace Go.Sw
open Go Go.RowKit
def Wr.q8(a:Nat):Wr Unit where
 n:=1
 agg:=false
 ok _ _ _ cs:=cs=[.pointer (some ⟨a,0,none⟩)]
 len h:=by rw[h];rfl
 one _:=rfl
 cell h c hc:=by rw[h] at hc;simp at hc;subst hc;rfl
 mono h _:=h
def Wr.pt{α:Type}(e:Wr α):Wr α where
 n:=1
 agg:=false
 ok x S w cs:=∃b u z,cs=[.pointer (some ⟨b,u,none⟩)]/\b<w.heap.size/\¬S b/\WK w b u z/\e.ok x S w z
 len h:=by obtain⟨b,u,z,h,_⟩:=h;rw[h];rfl
 one _:=rfl
 cell h c hc:=by obtain⟨b,u,z,h,_⟩:=h;rw[h] at hc;simp at hc;subst hc;rfl
 mono h k:=by
  obtain⟨b,u,z,C,A,B,D,E⟩:=h;exact⟨b,u,z,C,T4 A k.size,(k.I9 b A B).2,D.mono A B k,e.mono E k⟩
def Wr.N0{α β:Type}(g:Nat)(ef:Wr α)(ec:Wr β):Wr (α×β) where
 n:=1
 agg:=false
 ok q S w cs:=∃u z,cs=[.func (.func g) u.toArray z.toArray]/\ef.ok q.1 S w u/\ec.ok q.2 S w z
 len h:=by obtain⟨u,z,h,_⟩:=h;rw[h];rfl
 one _:=rfl
 cell h c hc:=by obtain⟨u,z,h,_⟩:=h;rw[h] at hc;simp at hc;subst hc;rfl
 mono h k:=by obtain⟨u,z,h,A,B⟩:=h;exact⟨u,z,h,ef.mono A k,ec.mono B k⟩
def qJ{α β:Type}(f:Wr α)(r:Wr β)(h1:f.n=1)(_h2:f.agg=false)(h3:r.n=1)(_h4:r.agg=false):Wr (α ⊕ β) where
 n:=1
 agg:=false
 ok q S w cs:=match q with | .inl x=>f.ok x S w cs | .inr y=>r.ok y S w cs
 len {q S w cs} h:=by
  cases q with
  |inl x=>rw[f.len h,h1]
  |inr y=>rw[r.len h,h3]
 one _:=rfl
 cell {q S w cs} h:=by
  cases q with
  |inl x=>exact f.cell h
  |inr y=>exact r.cell h
 mono {q S S' w w' cs} h k:=by
  cases q with
  |inl x=>exact f.mono h k
  |inr y=>exact r.mono h k
def fk{α β:Type}(e:Wr α)(z:α)(f:Wr β)(q:β):Prop:=∀S w v,e.val z S w v->f.val q S w v
theorem fk.self{α:Type}{e:Wr α}{z:α}:fk e z e z:=fun _ _ _ h=>h
theorem fk.l{α β γ:Type}{e:Wr γ}{z:γ}{f:Wr α}{r:Wr β}{h1:f.n=1}{h2:f.agg=false}{h3:r.n=1}{h4:r.agg=false}{q:α}(h:fk e z f q):fk e z (qJ f r h1 h2 h3 h4) (.inl q):=by
 intro S w v u;obtain⟨A,B,C⟩:=h S w v u;exact⟨A,B,by rw[C];simp[Wr.pk,qJ,h2]⟩
theorem fk.r{α β γ:Type}{e:Wr γ}{z:γ}{f:Wr α}{r:Wr β}{h1:f.n=1}{h2:f.agg=false}{h3:r.n=1}{h4:r.agg=false}{q:β}(h:fk e z r q):fk e z (qJ f r h1 h2 h3 h4) (.inr q):=by
 intro S w v u;obtain⟨A,B,C⟩:=h S w v u;exact⟨A,B,by rw[C];simp[Wr.pk,qJ,h4]⟩
section
variable {F:XO}{σ:AS}{pb:Option Nat}{s:Slot}{d:Option Tmp}{ty:TypeId}{p:String}{af:Array Edge}{gd:Option (Nat×Bool)}{x y z:Operand}
def V9{α:Type}(σ:AS)(xs:List Operand)(e:Wr α)(v:α):Prop:=∀ρ S a w,r7 σ xs.toArray ρ S a w->e.ok v S w (xs.map a.eval)
theorem V9.nil:V9 σ [] kJ ():=fun _ _ _ _ _=>rfl
theorem V9.q8{i c:Nat}{T:TypeId}{l:List Slot}(hx:dF σ.g x=some (.ptr i 0))(he:aX σ.d i=some (.box T l (some c))):V9 σ [x] (Wr.q8 c) ():=by
 intro ρ S a w K;have h:=K.slot x (by simp) _ hx;simp only[Slot.ok] at h;obtain⟨⟨b,B⟩,A⟩:=h;have u:=(K.C6 x (by simp) _ hx i (by simp[Slot.YS]) _ he).1;have z:=u.2 c rfl;show [a.eval x]=_;rw[A,z];rfl
theorem V9.YI{α:Type}{e:Wr α}{v:α}(hx:dF σ.g x=some (.YI e v)):V9 σ [x] (Wr.pt e) v:=by
 intro ρ S a w K;have h:=K.slot x (by simp) _ hx;simp only[Slot.ok] at h;obtain⟨b,u,z,A,B⟩:=h;exact⟨b,u,z,by simp[A],B⟩
theorem V9.cons{α β:Type}{e:Wr α}{e':Wr β}{v:α}{v':β}{xs:List Operand}(h:V9 σ [x] e v)(k:V9 σ xs e' v'):V9 σ (x::xs) (Wr.pr e e') (v,v'):=by
 intro ρ S a w K
 exact⟨[a.eval x],xs.map a.eval,rfl,h ρ S a w ⟨K.low,fun q u=>K.slot q (by simp at u ⊢;exact .inl u),fun q u=>K.C6 q (by simp at u ⊢;exact .inl u)⟩,
  k ρ S a w ⟨K.low,fun q u=>K.slot q (by simp at u ⊢;exact .inr u),fun q u=>K.C6 q (by simp at u ⊢;exact .inr u)⟩⟩
theorem nY{α β γ:Type}{g:Nat}{ef:Wr α}{ec:Wr β}{u:α}{v:β}{f:Wr γ}{q:γ}{xs ys:List Operand}(hf:V9 σ xs ef u)(hc:V9 σ ys ec v)(hI:fk (Wr.N0 g ef ec) (u,v) f q):
  JO F ⟨d,.makeFunc (.func g) xs.toArray ys.toArray,ty,p,af,gd⟩ σ (.v f q) []:=by
 intro ρ S a w K;have z:=hf ρ S a w ⟨K.low,fun r h=>K.slot r (by simp[Op.operands] at h ⊢;exact .inl h),fun r h=>K.C6 r (by simp[Op.operands] at h ⊢;exact .inl h)⟩;have A:=hc ρ S a w ⟨K.low,fun r h=>K.slot r (by simp[Op.operands] at h ⊢;exact .inr h),fun r h=>K.C6 r (by simp[Op.operands] at h ⊢;exact .inr h)⟩;refine WB.value (w':=w) (v:= .func (.func g) (xs.map a.eval).toArray (ys.map a.eval).toArray) (by simp[execOp,Instr.makeFunc]) (YC.same ?_);simp only[Slot.ok];exact hI _ _ _ ⟨_,⟨_,_,rfl,z,A⟩,rfl⟩
theorem Jk{T:TypeId}{i:Nat}(l:Nat)(hx:dF σ.g x=some (.ptr i 0))(hil:Nat.beq i l=false):JO F ⟨d,.box T x,ty,p,af,gd⟩ σ (.ptr l 0) [(l,.box T [.ptr i 0])]:=by
 intro ρ S a w K;have h:=K.slot x (by simp[Op.operands]) _ hx;have B:=h;simp only[Slot.ok] at h;obtain⟨⟨b,u⟩,A⟩:=h;rw[u] at A;have z:a.eval x= .pointer (some ⟨b,0,none⟩):=A;refine WB.value (w':=w.alloc (.cells [a.eval x].toArray T)) (v:= .pointer (some ⟨w.heap.size,0,none⟩)) (by simp[execOp,Instr.box,xQ,z,Value.cells]) ?_;refine YC.box l ?_ (by simp[eC,Slot.YS,hil]);exact⟨[a.eval x],[],rfl,by simp only[Slot.ZL];exact⟨⟨b,u⟩,by rw[z,u];rfl⟩,rfl⟩
theorem BG{i:Nat}{T:TypeId}{l:List Slot}{cs:List Code}{Q:Exit->Act->World->Prop}(he:aX σ.d i=some (.box T l none))(h:∀c,W F cs ⟨σ.g,(i,.box T l (some c))::σ.d⟩ Q):W F cs σ Q:=by
 intro a w S;obtain⟨⟨ρ,A,ZW⟩,hz,ZG⟩:=S;have R:=A.own i _ he;obtain⟨⟨b,aa,L,h2,h3⟩,h4⟩:=R;refine h b a w ⟨⟨ρ,?_,?_⟩,hz,ZG⟩
 ·have E:∀G z,aX ((i,WA.box T l (some b))::σ.d) G=some z->(G=i/\z= .box T l (some b))\/(G≠i/\aX σ.d G=some z):=fun G z h=>Hu h;have H:Un F.S0 ρ ((i,WA.box T l (some b))::σ.d)=Un F.S0 ρ σ.d:=by
   funext k;refine propext ⟨?_,?_⟩
   ·rintro (h |⟨j,z,u,D⟩)
    ·exact .inl h
    ·rcases E j z u with⟨rfl,_⟩|⟨_,u⟩
     ·exact .inr ⟨j,_,he,D⟩
     ·exact .inr ⟨j,_,u,D⟩
   ·rintro (h |⟨j,z,u,D⟩)
    ·exact .inl h
    ·by_cases K:j=i
     ·subst K;exact .inr ⟨j,.box T l (some b),by rw[cN,XC rfl],D⟩
     ·exact .inr ⟨j,z,by rw[cN,WV (iu K)];exact u,D⟩
  refine⟨A.low,A.size,A.frame,A.os,A.tape,A.output,?_,?_,?_,?_⟩
  ·intro j z u;show z.ok ρ (Un F.S0 ρ ((i,WA.box T l (some b))::σ.d)) w (ρ j);rw[H];rcases E j z u with⟨rfl,rfl⟩|⟨_,u⟩
   ·exact⟨⟨b,aa,L,h2,h3⟩,fun c R0=>by cases R0;exact L⟩
   ·exact A.own j z u
  ·intro j z B u C;rcases E j z u with⟨rfl,rfl⟩|⟨_,u⟩
   ·exact A.fresh j _ B he C
   ·exact A.fresh j z B u C
  ·intro j U z V B u X I C;rcases E j z u with⟨M,_⟩|⟨_,N⟩<;>rcases E U V X with⟨O,_⟩|⟨_,P⟩
   ·rw[M,O]
   ·subst M;exact A.inj _ _ _ _ B he P I C
   ·subst O;exact A.inj _ _ _ _ B N he I C
   ·exact A.inj _ _ _ _ B N P I C
  ·intro j z B u C;rcases E j z u with⟨rfl,rfl⟩|⟨_,u⟩
   ·exact A.apart j _ B he C
   ·exact A.apart j z B u C
 ·intro t s ht
  have H:Ext (Un F.S0 ρ σ.d) (Un F.S0 ρ ((i,WA.box T l (some b))::σ.d)) w w:=⟨YZ _,fun k _ hk=>⟨rfl,fun h=>hk (by
   rcases h with h |⟨j,z,u,D⟩
   ·exact .inl h
   ·rcases Hu u with⟨rfl,_⟩|⟨_,u⟩
    ·exact .inr ⟨j,_,he,D⟩
    ·exact .inr ⟨j,_,u,D⟩)⟩⟩
  exact Slot.VX s _ (ZW t s ht) H (fun _ _=>rfl)
end
def W4{α:Type}(pins:List (Nat×Nat))(e:Wr α)(v:α)(ss:List Slot):Prop:=∀ρ S w cs,(∀p∈pins,(ρ p.1).v= .pointer (some ⟨p.2,0,none⟩))->e.ok v S w cs->aW ρ S w ss cs
theorem W4.nil{pins:List (Nat×Nat)}:W4 pins kJ () []:=fun _ _ _ _ _ h=>h
theorem W4.q8{pins:List (Nat×Nat)}{i c:Nat}(h:(i,c)∈pins):W4 pins (Wr.q8 c) () [.ptr i 0]:=by
 intro ρ S w cs hp u;have u:cs=[.pointer (some ⟨c,0,none⟩)]:=u;subst u;have:=hp _ h;exact⟨_,[],rfl,by simp only[Slot.ok];exact⟨⟨c,this⟩,by rw[this];rfl⟩,rfl⟩
theorem W4.pt{pins:List (Nat×Nat)}{α:Type}{e:Wr α}{v:α}:W4 pins (Wr.pt e) v [.YI e v]:=by
 rintro ρ S w A B ⟨b,u,z,rfl,h⟩;exact⟨_,[],rfl,by simp only[Slot.ok];exact⟨b,u,z,rfl,h⟩,rfl⟩
theorem W4.pr{pins:List (Nat×Nat)}{α β:Type}{e:Wr α}{e':Wr β}{v:α}{v':β}{s s':List Slot}(h:W4 pins e v s)(k:W4 pins e' v' s'):W4 pins (Wr.pr e e') (v,v') (s++s'):=by
 rintro ρ S w C u ⟨c,z,rfl,A,B⟩;exact Be (h ρ S w c u A) (k ρ S w z u B)
def WC{β:Type}(P:Program)(pins:List (Nat×Nat))(f:Wr β)(q:β)(YM:List (Nat×WA))(res:Slot)(WJ:List (Nat×WA)):Prop:=
 ∀S w v,f.val q S w v->∃g fs gs ss,v= .func (.func g) fs.toArray gs.toArray/\(∀args w,(callFunc g args).run P w= .ok (.enter g args) w)/\(∀ρ,(∀p∈pins,(ρ p.1).v= .pointer (some ⟨p.2,0,none⟩))->aW ρ S w ss (fs++gs))/\VZ P g ss YM res WJ
section
variable {P:Program}{pins:List (Nat×Nat)}{YM WJ:List (Nat×WA)}{res:Slot}
theorem WC.N0{α β:Type}{g:Nat}{ef:Wr α}{ec:Wr β}{q:α×β}{s s':List Slot}(h:W4 pins ef q.1 s)(k:W4 pins ec q.2 s')(hc:∀args w,(callFunc g args).run P w= .ok (.enter g args) w)(hm:VZ P g (s++s') YM res WJ):WC P pins (Wr.N0 g ef ec) q YM res WJ:=by
 rintro S w v ⟨D,⟨z,A,rfl,B,C⟩,rfl⟩;exact⟨g,z,A,_,rfl,hc,fun ρ u=>Be (h ρ S w z u B) (k ρ S w A u C),hm⟩
theorem WC.l{α β:Type}{f:Wr α}{r:Wr β}{h1:f.n=1}{h2:f.agg=false}{h3:r.n=1}{h4:r.agg=false}{q:α}(h:WC P pins f q YM res WJ):WC P pins (qJ f r h1 h2 h3 h4) (.inl q) YM res WJ:=by
 rintro S w v ⟨u,z,A⟩;exact h S w v ⟨u,z,by rw[A];simp[Wr.pk,qJ,h2]⟩
theorem WC.r{α β:Type}{f:Wr α}{r:Wr β}{h1:f.n=1}{h2:f.agg=false}{h3:r.n=1}{h4:r.agg=false}{q:β}(h:WC P pins r q YM res WJ):WC P pins (qJ f r h1 h2 h3 h4) (.inr q) YM res WJ:=by
 rintro S w v ⟨u,z,A⟩;exact h S w v ⟨u,z,by rw[A];simp[Wr.pk,qJ,h4]⟩
end
section
variable {F:XO}{σ:AS}{d:Option Tmp}{ty:TypeId}{p:String}{af:Array Edge}{gd:Option (Nat×Bool)}{x:Operand}
theorem DN{P:Program}{g:FuncId}{ts:Array TypeId}{a:Act}{w:World}{fs gs:List Value}(hx:a.eval x= .func (.func g) fs.toArray gs.toArray)(YE:∀args w,(callFunc g args).run P w= .ok (.enter g args) w):
  (execOp a.eval ⟨d,.call ⟨.value x,#[],ts⟩,ty,p,af,gd⟩).run P w= .ok (.enter g (fs++gs).toArray) w:=by
 simp[execOp,resolve,hx,Deferred.ofValue,invoke,YE]
def R7(σ:AS)(r:Nat->Nat):List (Nat×Nat)->Prop
 | []=>True
 |q::l=>(∃T s,aX σ.d (r q.1)=some (.box T s (some q.2)))/\R7 σ r l
theorem R7.at{σ:AS}{r:Nat->Nat}:∀{pins:List (Nat×Nat)},R7 σ r pins->∀q∈pins,∃T s,aX σ.d (r q.1)=some (.box T s (some q.2))
 |_::_,h,q,u=>by
  rcases q9.1 u with rfl | u
  ·exact h.1
  ·exact R7.at h.2 q u
theorem Nh{β:Type}{f:Wr β}{q:β}{ts:Array TypeId}{res:Slot}{YM WJ:(Nat->Nat)->List (Nat×WA)}{D:List (Nat×WA)}{K H:List Nat}(pins:List (Nat×Nat))(r:Nat->Nat)(hr:∀i j,r i=r j->i=j)(hx:dF σ.g x=some (.v f q))(hp:R7 σ r pins)
  (hc:∀A,(∀p∈pins,A p.1=p.2)->WC F.P pins f q (YM A) res (WJ A)) (B9:∀A,B2 σ r A (YM A)) (E7:∀A,ZM σ r A (WJ A) D K)
  (hH:∀A,(YM A).map (fun x=>r x.1)=H) (YN:Bf σ.g (iY σ.d H) H K D=true) (P4:Pn σ H D=true) (YX:∀A,lB res (WJ A)=true) (jk:K.all (fun k=>iF k H)=true) (j8:gQ d F.N=true):
  JM F ⟨d,.call ⟨.value x,#[],ts⟩,ty,p,af,gd⟩ σ ⟨iR d (res.map r) σ.g,D++iY σ.d H⟩:=by
 rintro a w ⟨⟨ρ,z,V⟩,hz,ZG⟩;let A:Nat->Nat:=fun i=>q8 (ρ (r i)).v
 have L:∀i b,(ρ (r i)).v= .pointer (some ⟨b,0,none⟩)->A i=b:=fun i b h=>by show q8 (ρ (r i)).v=b;rw[h];rfl
 have R:∀q∈pins,(ρ (r q.1)).v= .pointer (some ⟨q.2,0,none⟩):=fun q hq=>by
  obtain⟨T,s,h⟩:=hp.at q hq;exact(z.own _ _ h).2 _ rfl
 have C:=(B9 A).spec z.own L;have X:∀k,(Un F.S0 ρ σ.d k/\¬mR (fun i=>ρ (r i)) (YM A) k)->k<w.heap.size:=by
  rintro k ⟨h |⟨i,u,E,G⟩,_⟩
  ·exact T4 (z.low k h) z.size
  ·exact(z.fresh i u k E G).2
 have S:Un (fun k=>Un F.S0 ρ σ.d k/\¬mR (fun i=>ρ (r i)) (YM A) k) (fun i=>ρ (r i)) (YM A)=Un F.S0 ρ σ.d:=by
  funext k;refine propext ⟨fun h=>?_,fun h=>?_⟩
  ·rcases h with h |⟨i,u,E,G⟩
   ·exact h.1
   ·obtain⟨⟨O,B⟩,_⟩:=C i u E;exact .inr ⟨r i,O,B,G⟩
  ·by_cases I:mR (fun i=>ρ (r i)) (YM A) k
   ·exact .inr I
   ·exact .inl ⟨h,I⟩
 have kn:Ins (fun k=>Un F.S0 ρ σ.d k/\¬mR (fun i=>ρ (r i)) (YM A) k) (fun i=>ρ (r i)) w (YM A):=by
  refine⟨fun i u h=>?_,fun i u b h M=>?_,fun i u b h M h'=>h'.2 ⟨i,u,h,M⟩,fun i j u aa b hi hj bi bj=>?_⟩
  ·rw[S];exact(C i u h).2
  ·obtain⟨⟨O,B⟩,_⟩:=C i u h;exact(z.fresh _ _ b B M).2
  ·obtain⟨⟨O,B⟩,_⟩:=C i u hi;obtain⟨⟨di,Q⟩,_⟩:=C j aa hj;exact hr _ _ (z.inj _ _ _ _ b B Q bi bj)
 have K:=cK z V (Op.call ⟨.value x,#[],ts⟩).operands;have U:=K.slot x (by simp[Op.operands,Call.operands]) _ hx;simp only[Slot.ok] at U;obtain⟨g,fs,gs,ss,E,G,B,Q⟩:=hc A (fun p ga=>L _ _ (R p ga)) _ _ _ U;refine WB.enter (DN E G) ((Q _ w _ _ X kn (by rw[S];exact B _ R)).mono ?_);rintro e w' ⟨v,ρ',rfl,I⟩;exact⟨v,rfl,St.J8 hr z V hz ZG L (B9 A) (E7 A) (hH A) YN P4 (YX A) jk j8 I⟩
theorem Jl{f:FuncId}{xs:List Operand}{ts:Array TypeId}{ss:List Slot}{res:Slot}{YM WJ:(Nat->Nat)->List (Nat×WA)}{D:List (Nat×WA)}{K H:List Nat}(pins:List (Nat×Nat))(r:Nat->Nat)(hr:∀i j,r i=r j->i=j)(hp:R7 σ r pins)
  (hc:∀A,(∀p∈pins,A p.1=p.2)->VZ F.P f ss (YM A) res (WJ A)) (YE:∀args w,(callFunc f args).run F.P w= .ok (.enter f args) w) (ha:B5 σ r xs ss) (B9:∀A,B2 σ r A (YM A)) (E7:∀A,ZM σ r A (WJ A) D K)
  (hH:∀A,(YM A).map (fun x=>r x.1)=H) (YN:Bf σ.g (iY σ.d H) H K D=true) (P4:Pn σ H D=true) (YX:∀A,lB res (WJ A)=true) (jk:K.all (fun k=>iF k H)=true) (j8:gQ d F.N=true):
  JM F ⟨d,.call ⟨.value (.func f),xs.toArray,ts⟩,ty,p,af,gd⟩ σ ⟨iR d (res.map r) σ.g,D++iY σ.d H⟩:=by
 rintro a w ⟨⟨ρ,z,R⟩,hz,ZG⟩;let A:Nat->Nat:=fun i=>q8 (ρ (r i)).v
 have G:∀i b,(ρ (r i)).v= .pointer (some ⟨b,0,none⟩)->A i=b:=fun i b h=>by show q8 (ρ (r i)).v=b;rw[h];rfl
 have S:∀q∈pins,(ρ (r q.1)).v= .pointer (some ⟨q.2,0,none⟩):=fun q hq=>by
  obtain⟨T,s,h⟩:=hp.at q hq;exact(z.own _ _ h).2 _ rfl
 have B:=(B9 A).spec z.own G;have U:∀k,(Un F.S0 ρ σ.d k/\¬mR (fun i=>ρ (r i)) (YM A) k)->k<w.heap.size:=by
  rintro k ⟨h |⟨i,u,M,O⟩,_⟩
  ·exact T4 (z.low k h) z.size
  ·exact(z.fresh i u k M O).2
 have Q:Un (fun k=>Un F.S0 ρ σ.d k/\¬mR (fun i=>ρ (r i)) (YM A) k) (fun i=>ρ (r i)) (YM A)=Un F.S0 ρ σ.d:=by
  funext k;refine propext ⟨fun h=>?_,fun h=>?_⟩
  ·rcases h with h |⟨i,u,M,O⟩
   ·exact h.1
   ·obtain⟨⟨L,C⟩,_⟩:=B i u M;exact .inr ⟨r i,L,C,O⟩
  ·by_cases E:mR (fun i=>ρ (r i)) (YM A) k
   ·exact .inr E
   ·exact .inl ⟨h,E⟩
 have V:Ins (fun k=>Un F.S0 ρ σ.d k/\¬mR (fun i=>ρ (r i)) (YM A) k) (fun i=>ρ (r i)) w (YM A):=by
  refine⟨fun i u h=>?_,fun i u b h I=>?_,fun i u b h I h'=>h'.2 ⟨i,u,h,I⟩,fun i j u aa b hi hj bi bj=>?_⟩
  ·rw[Q];exact(B i u h).2
  ·obtain⟨⟨L,C⟩,_⟩:=B i u h;exact(z.fresh _ _ b C I).2
  ·obtain⟨⟨L,C⟩,_⟩:=B i u hi;obtain⟨⟨di,h4⟩,_⟩:=B j aa hj;exact hr _ _ (z.inj _ _ _ _ b C h4 bi bj)
 have K:=cK z R (Op.call ⟨.value (.func f),xs.toArray,ts⟩).operands;have X:=ha.spec (ys:=(Op.call ⟨.value (.func f),xs.toArray,ts⟩).operands) (fun x hx=>by simp[Op.operands,Call.operands,hx]) K;refine WB.enter (uI YE) ((hc A (fun p ga=>G _ _ (S p ga)) _ w _ _ U V (by rw[Q];exact X)).mono ?_);rintro e w' ⟨v,ρ',rfl,E⟩;exact⟨v,rfl,St.J8 hr z R hz ZG G (B9 A) (E7 A) (hH A) YN P4 (YX A) jk j8 E⟩
end
theorem WC.at2{β:Type}{P:Program}{e:Nat->Nat->Wr β}{q:β}{YM WJ:(Nat->Nat)->List (Nat×WA)}{res:Slot}(a p:Nat)(h:∀A:Nat->Nat,WC P [(9000,A 9000),(9100,A 9100)] (e (A 9000) (A 9100)) q (YM A) res (WJ A)):
  ∀A:Nat->Nat,(∀z∈ [(9000,a),(9100,p)],A z.1=z.2)->WC P [(9000,a),(9100,p)] (e a p) q (YM A) res (WJ A):=by
 intro A u;have B:A 9000=a:=u (9000,a) (by simp);have C:A 9100=p:=u (9100,p) (by simp);subst B;subst C;exact h A
theorem VZ.at2{P:Program}{f:FuncId}{ss:Nat->Nat->List Slot}{YM WJ:(Nat->Nat)->List (Nat×WA)}{res:Slot}(a p:Nat)(h:∀A:Nat->Nat,VZ P f (ss (A 9000) (A 9100)) (YM A) res (WJ A)):
  ∀A:Nat->Nat,(∀z∈ [(9000,a),(9100,p)],A z.1=z.2)->VZ P f (ss a p) (YM A) res (WJ A):=by
 intro A u;have B:A 9000=a:=u (9000,a) (by simp);have C:A 9100=p:=u (9100,p) (by simp);subst B;subst C;exact h A
end Go.Sw
namespace Go.Sw
open Go Go.RowKit
def X8{α:Type}(zs:List α)(lo hi m:Int):Option (List α):=if hi=m/\lo<hi then sub zs lo hi else none
theorem Jm{α:Type}{zs ys:List α}{lo hi m:Int}(h:X8 zs lo hi m=some ys):hi=m/\lo<hi/\sub zs lo hi=some ys:=by
 unfold X8 at h;split at h
 ·rename_i u;exact⟨u.1,u.2,h⟩
 ·cases h
theorem BH{α:Type}{zs ys:List α}{lo hi m:Int}(h:X8 zs lo hi m=some ys):ys≠ []:=by
 obtain⟨_,A,z⟩:=Jm h;obtain⟨a,b,c,rfl⟩:=gU z;intro u;have:=congrArg List.length u;simp at this;omega
theorem Vc{P:Program}{w:World}{n:Nat}{k:IntKind}{lo:Int}(h0:0<=lo)(h1:lo<=n):(Instr.sliceBounds false n n (some (.int k lo)) none none).run P w= .ok (lo.toNat,n,n) w:=by
 simp[Instr.sliceBounds,Instr.sliceBound,asIntOf,h0,h1]
theorem Vd{P:Program}{w:World}{n:Nat}{k k':IntKind}{hi:Int}(h0:0<=hi)(h1:hi<=n):(Instr.sliceBounds false n n none (some (.int k hi)) (some (.int k' hi))).run P w= .ok (0,hi.toNat,hi.toNat) w:=by
 have h:hi<=(hi.toNat:Int):=by omega
 simp only[Instr.sliceBounds,Instr.sliceBound,asIntOf,Sem.run_bind,Sem.run_pure,Result.andThen_ok,h0,h1,h,and_self,l6]
theorem Yp{P:Program}{w:World}{U E:TypeId}{b off len m:Nat}{k:IntKind}{lo:Int}(h0:0<=lo)(h1:lo<len)(hU:∀w,(underlying U).run P w= .ok (.array len E) w)(hE:∀w,(sizeOf E).run P w= .ok m w):(Instr.sliceAt U (.pointer (some ⟨b,off,none⟩)) (some (.int k lo)) none none).run P w= .ok (.slice (some ⟨b,off+lo.toNat*m,none⟩) (len - lo.toNat) (len - lo.toNat)) w:=by
 have h:¬len=lo.toNat:=by omega
 have u:¬lo.toNat=len:=by omega
 simp[Instr.sliceAt,hU,hE,Instr.sureAddr,Vc h0 (show lo<=(len:Int) by omega),h,Addr.add_lit]
theorem Yq{P:Program}{w:World}{U E:TypeId}{b off len m:Nat}{k k':IntKind}{hi:Int}(h0:0<hi)(h1:hi<=len)(hU:∀w,(underlying U).run P w= .ok (.array len E) w)(hE:∀w,(sizeOf E).run P w= .ok m w):(Instr.sliceAt U (.pointer (some ⟨b,off,none⟩)) none (some (.int k hi)) (some (.int k' hi))).run P w= .ok (.slice (some ⟨b,off,none⟩) hi.toNat hi.toNat) w:=by
 have h:Addr.add ⟨b,off,none⟩ 0=⟨b,off,none⟩:=by rw[Addr.add_lit];rfl
 have u:¬hi.toNat=0:=by omega
 simp[Instr.sliceAt,hU,hE,Instr.sureAddr,Vd (aEe h0) h1,u,h]
section
variable {F:XO}{σ:AS}{d:Option Tmp}{ty:TypeId}{p:String}{af:Array Edge}{gd:Option (Nat×Bool)}{x y z:Operand}
theorem Yr{α:Type}{e:Wr α}{zs ys:List α}{U E:TypeId}{len:Nat}{lo:Int}{k:IntKind}(hs:X8 zs lo (len:Int) (len:Int)=some ys)(hx:dF σ.g x=some (.YI (Wr.arr len e) zs))(hy:dF σ.g y=some (.v (Wr.int k) lo))(hlen:Nat.ble len 4294967296=true)
  (hU:∀w,(underlying U).run F.P w= .ok (.array len E) w) (hE:∀w,(sizeOf E).run F.P w= .ok e.n w):JO F ⟨d,.slice U x (some y) none none,ty,p,af,gd⟩ σ (.v (Hv e) ys) []:=by
 intro ρ S a w K;have hlen:=B3 hlen;obtain⟨_,T,hs⟩:=Jm hs;obtain⟨H,s1,V,rfl⟩:=gU hs;have h:=K.slot x (by simp[Op.operands]) _ hx;have B:=(fX K (x:=y) (by simp[Op.operands]) hy).1;simp only[Slot.ok] at h;obtain⟨b,u,X,I,L,M,N,h5,O⟩:=h;have z:((zs.take (len:Int).toNat).drop lo.toNat).length=len - lo.toNat:=by rw[V8,E9];omega
 have C:(Wr.sl e).val ((zs.take (len:Int).toNat).drop lo.toNat) S w (.slice (some ⟨b,u+lo.toNat*e.n,none⟩) (len - lo.toNat) (len - lo.toNat)):=
  sK.2 ⟨_,_,by rw[z],⟨by rw[z];omega,by rw[z];omega⟩,.inr ⟨b,u+lo.toNat*e.n,_,rfl,L,M,(N.take ((len:Int).toNat*e.n)).drop (lo.toNat*e.n),wB _ (sV _ O)⟩⟩
 refine WB.value (w':=w) (v:= .slice (some ⟨b,u+lo.toNat*e.n,none⟩) (len - lo.toNat) (len - lo.toNat)) ?_ (YC.same (by
  simp only[Slot.ok];obtain⟨Q,R,A⟩:=C;refine⟨Q,⟨R,fun a l c G=>?_⟩,A⟩;subst G;have D:(Value.slice (some ⟨b,u+lo.toNat*e.n,none⟩) (len - lo.toNat) (len - lo.toNat))= .slice a l c:=A;injection D with _ e1 e2
  omega))
 simp[execOp,I,B,Yp H (show lo<(len:Int) by omega) hU hE]
theorem DO{α:Type}{e:Wr α}{zs ys:List α}{U E:TypeId}{len:Nat}{hi m:Int}{k k':IntKind}(hs:X8 zs 0 hi m=some ys)(hx:dF σ.g x=some (.YI (Wr.arr len e) zs))(hy:dF σ.g y=some (.v (Wr.int k) hi))(hz:dF σ.g z=some (.v (Wr.int k') m))(hlen:Nat.ble len 4294967296=true)
  (hU:∀w,(underlying U).run F.P w= .ok (.array len E) w) (hE:∀w,(sizeOf E).run F.P w= .ok e.n w):JO F ⟨d,.slice U x none (some y) (some z),ty,p,af,gd⟩ σ (.v (Hv e) ys) []:=by
 intro ρ S a w K;have hlen:=B3 hlen;obtain⟨rfl,L,hs⟩:=Jm hs;obtain⟨X,s1,s2,rfl⟩:=gU hs;have h:=K.slot x (by simp[Op.operands]) _ hx;have C:=(fX K (x:=y) (by simp[Op.operands]) hy).1;have D:=(fX K (x:=z) (by simp[Op.operands]) hz).1;simp only[Slot.ok] at h;obtain⟨b,u,ds,M,N,O,Q,h5,R⟩:=h;have A:((zs.take hi.toNat).drop (0:Int).toNat).length=hi.toNat:=by rw[V8,E9];simp only[Int.toNat_zero];omega
 have G:(Wr.sl e).val ((zs.take hi.toNat).drop (0:Int).toNat) S w (.slice (some ⟨b,u,none⟩) hi.toNat hi.toNat):=
  sK.2 ⟨_,_,by rw[A],⟨by rw[A];omega,by rw[A];omega⟩,.inr ⟨b,u,_,rfl,N,O,Q.take (hi.toNat*e.n),by simpa using sV _ R⟩⟩
 refine WB.value (w':=w) (v:= .slice (some ⟨b,u,none⟩) hi.toNat hi.toNat) ?_ (YC.same (by
  simp only[Slot.ok];obtain⟨T,V,B⟩:=G;refine⟨T,⟨V,fun a l c I=>?_⟩,B⟩;subst I;have H:(Value.slice (some ⟨b,u,none⟩) hi.toNat hi.toNat)= .slice a l c:=B;injection H with _ e1 e2
  omega))
 simp[execOp,M,C,D,Yq L (show hi<=(len:Int) by omega) hU hE]
theorem Qt{α:Type}{e:Wr α}{zs ys:List α}{U E:TypeId}{len:Nat}{hi:Int}{k:IntKind}(hs:sub zs 0 hi=some ys)(hx:dF σ.g x=some (.YI (Wr.arr len e) zs))(hy:dF σ.g y=some (.v (Wr.int k) hi))(hlen:Nat.ble len 4294967296=true)
  (hU:∀w,(underlying U).run F.P w= .ok (.array len E) w) (hE:∀w,(sizeOf E).run F.P w= .ok e.n w):JO F ⟨d,.slice U x none (some y) none,ty,p,af,gd⟩ σ (.v (Wr.sl e) ys) []:=by
 intro ρ S a w K;have hlen:=B3 hlen;obtain⟨I,s1,L,rfl⟩:=gU hs;have h:=K.slot x (by simp[Op.operands]) _ hx;have A:=(fX K (x:=y) (by simp[Op.operands]) hy).1;simp only[Slot.ok] at h;obtain⟨b,z,M,B,C,D,G,N,H⟩:=h;have u:((zs.take hi.toNat).drop (0:Int).toNat).length=hi.toNat:=by rw[V8,E9];simp only[Int.toNat_zero];omega
 refine WB.value (w':=w) (v:= .slice (some ⟨b,z,none⟩) hi.toNat len) ?_ (YC.same (by
  simp only[Slot.ok]
  exact sK.2 ⟨_,_,by rw[u],⟨by rw[u];omega,by rw[u];omega⟩,.inr ⟨b,z,_,rfl,C,D,G.take (hi.toNat*e.n),by simpa using sV _ H⟩⟩))
 simp[execOp,B,A,Yh s1 (show hi<=(len:Int) by omega) hU hE]
def N7(σ:AS)(xs:List Operand)(ss:List Slot):Prop:=
 ∀(F:XO) (ρ:Nat->LV) (a:Act) (w:World),Core F σ.d ρ w->(∀t s,lk σ.g t=some s->s.ok ρ (Un F.S0 ρ σ.d) w (a.tmps.getD t undef))->aW ρ (fun _=>False) w ss (xs.map a.eval)
theorem N7.nil:N7 σ [] []:=fun _ _ _ _ _ _=>by simp[aW]
theorem N7.cons{s:Slot}{xs:List Operand}{l:List Slot}(h:Arg σ true x s)(k:N7 σ xs l):N7 σ (x::xs) (s::l):=by
 intro F ρ a w l5 hs;have u:=h _ _ _ _ (cK l5 hs #[x]);simp only[l6] at u;simp only[aW,H9];exact⟨_,_,rfl,u,k F ρ a w l5 hs⟩
theorem N7.fn1{α:Type}{g i j:Nat}{T T2:TypeId}{e:Wr α}{v:α}{bl l:List Slot}{pb pb2:Option Nat}{xs:List Operand}(h:dF σ.g x=some (.j2 g [.ptr i 0]))(he:aX σ.d i=some (.box T [.ptr j 0] pb))(he2:aX σ.d j=some (.box T2 bl pb2))(hs:N5 bl e v)(k:N7 σ xs l):
  N7 σ (x::xs) (.j2 g [.YI (Wr.C8 e) (some v)]::l):=by
 intro F ρ a w l5 YN;have A:=(cK l5 YN #[x]).slot x (by simp) _ h;simp only[aW,H9];refine⟨_,_,rfl,?_,k F ρ a w l5 YN⟩;simp only[Slot.ok] at A ⊢;obtain⟨vs,N,C⟩:=A;refine⟨vs,N,?_⟩;simp only[aW] at C ⊢;obtain⟨u,O,rfl,D,P⟩:=C;refine⟨u,O,rfl,?_,P⟩;have L:=(l5.own i _ he)
 have M:=(l5.own j _ he2)
 simp only[Slot.ok] at D;obtain⟨⟨b,E⟩,Q⟩:=D;obtain⟨⟨G,cs,H,I,K⟩,_⟩:=L;obtain rfl:G=b:=by rw[E] at H;simpa using H.symm
 simp only[bN] at K;obtain⟨c,ds,rfl,z,rfl⟩:=K;obtain⟨q,rfl,R⟩:∃q,c=[q]/\(Slot.ptr j 0).ok ρ (Un F.S0 ρ σ.d) w q:=by
  simp only[Slot.ZL] at z;exact⟨_,z.2,by exact⟨z.1,rfl⟩⟩
 have B:=Yg R M hs;simp only[Slot.ok] at B;obtain⟨S,U,V,X,k2,k3,k4,k5⟩:=B;refine⟨G,0,_,by rw[Q,E];rfl,(WK.of_heap I).lt,fun h=>h,WK.of_heap I,?_⟩;exact⟨S,U,V,by simp[X],k2,k3,k4,k5⟩
theorem HQ{f:FuncId}{xs:List Operand}{ts:Array TypeId}{ss:List Slot}{res:Slot}(hc:WL F.P f ss res [])(YE:∀args w,(callFunc f args).run F.P w= .ok (.enter f args) w)
  (ha:N7 σ xs ss) (hf:YF res) (hd:gQ d F.N=true):JM F ⟨d,.call ⟨.value (.func f),xs.toArray,ts⟩,ty,p,af,gd⟩ σ (σ.put d res []):=by
 rintro a w ⟨⟨ρ,z,A⟩,B,C⟩;refine WB.enter (uI YE) ?_;refine(hc (fun _=>False) w _ ρ (fun _ h=>h.elim) (ha F ρ a w z A)).mono ?_;rintro e I ⟨v,rfl,ρ',D,E,G,K⟩;exact⟨v,rfl,St.put z A B C rfl hd ⟨ρ',D,E,hf _ _ _ _ _ G,⟨fun i u h=>by simp[aX] at h,fun i u b h=>by simp[aX] at h,fun i j u H b h=>by simp[aX] at h⟩⟩⟩
end
end Go.Sw
namespace Go.Sw
open Go Go.RowKit
def HR{α:Type}(l:List α):Option Unit:=if l.isEmpty then none else some ()
theorem Ni{α:Type}{l:List α}{u:Unit}(h:HR l=some u):l≠ []:=by
 intro e;subst e;cases h
theorem PZ{α:Type}{e:Wr α}{v:Bool×List α}:∀S w cs,(Wr.J4 e).ok v S w cs->(Wr.sl e).ok v.2 S w cs:=fun _ _ _ h=>h.1
theorem HS{α:Type}{e:Wr α}{xs:List α}(h:xs≠ []):∀S w cs,(Wr.sl e).ok xs S w cs->(Wr.J4 e).ok (false,xs) S w cs:=by
 rintro S w cs ⟨a,B,A,C,u⟩;refine⟨⟨a,B,A,C,u⟩,fun D l c z=>?_⟩;rcases u with u |⟨b,E,F,rfl,_⟩
 ·exact absurd u h
 ·rw[A] at z;simp at z;rw[<-z.1];rfl
theorem br.unN{α:Type}{e:Wr α}{v:Bool×List α}{σ:AS}{r:Nat->Nat}{ls:List Nat}:br σ r ls (.v (Wr.J4 e) v) (.v (Wr.sl e) v.2):= .enc PZ (fun _=>rfl)
section
variable {F:XO}{σ:AS}{d:Option Tmp}{ty:TypeId}{p:String}{af:Array Edge}{gd:Option (Nat×Bool)}{x y z:Operand}{α:Type}{e:Wr α}
theorem QA{o:Oper}{xs:List α}{new:List (Nat×WA)}(ZI:xs≠ [])(h:JO F o σ (.v (Wr.sl e) xs) new):JO F o σ (.v (Wr.J4 e) (false,xs)) new:=by
 intro ρ S a w K;refine(h ρ S a w K).mono ?_;rintro u H ⟨ρ',D,E,z,G⟩;refine⟨ρ',D,E,?_,G⟩;simp only[Slot.ok] at z ⊢;obtain⟨A,B,C⟩:=z;exact⟨A,HS ZI _ _ _ B,C⟩
theorem zJ(e:Wr α):JO F ⟨d,.assign (.const (.slice none 0 0)),ty,p,af,gd⟩ σ (.v (Wr.J4 e) (true,[])) []:=by
 intro ρ S a w K;refine WB.value (w':=w) (v:= .slice none 0 0) (by simp[execOp,Act.eval]) (YC.same ?_);simp only[Slot.ok];exact⟨[.slice none 0 0],⟨⟨none,0,rfl,by simp,.inl rfl⟩,fun a l c h=>by simp at h;rw[<-h.1];rfl⟩,rfl⟩
theorem Qu{v:Bool×List α}{T T' E:TypeId}(hx:dF σ.g x=some (.v (Wr.J4 e) v))(hT:∀w,(underlying T).run F.P w= .ok (.slice E) w):JO F ⟨d,.binOp .neq T x (.const (.slice none 0 0)) T',ty,p,af,gd⟩ σ (.v Wr.bool (!v.1)) []:=by
 intro ρ S a w K;have h:=K.slot x (by simp[Op.operands]) _ hx;simp only[Slot.ok] at h;obtain⟨b,xs⟩:=v;obtain⟨_,u,l,c,A,rfl⟩:=Sg h;have z:=run_equalIn_slice_nil (P:=F.P) w 9999 T E u l c (qY hT);refine WB.value (w':=w) (v:= .bool (!u.isNone)) ?_ (YC.same (pJ _ ρ S w));exact CW (r:=u.isNone) (.inr ⟨rfl,rfl⟩) A rfl (by intros;simp) (by intros;simp) (by intros;simp) (by intros;simp) (by simp[eqGuard,Act.eval]) z
theorem yV{β:Type}{v:α}{e':Wr β}{z':β}{T U:TypeId}{l:List Slot}{pb:Option Nat}{i n off o1:Nat}(hn:n=off+o1)(hx:dF σ.g x=some (.ptr i n))(he:aX σ.d i=some (.box T l pb))(ho:nM l off=some (.v e v))(hp:vl e v o1 e' z')
  (hA:∀w,(isAgg U).run F.P w= .ok e'.agg w) (hS:∀w,(sizeOf U).run F.P w= .ok e'.n w):JO F ⟨d,.load U x,ty,p,af,gd⟩ σ (.v e' z') []:=by
 subst hn;intro ρ S a w K;obtain⟨b,I,L,E,G,H⟩:=zV K (by simp[Op.operands]) hx he;obtain⟨h,c,z,rfl,rfl,A,_⟩:=vG ho H;simp only[Slot.ZL] at A;obtain⟨u,c',B,rfl,rfl,C⟩:=hp _ _ c A;have D:WK w b (h.length+u.length) c':=by
  have:=WK.of_heap G;rw[show h++(u++(c'++B)++z)=(h++u)++(c'++(B++z)) by simp] at this;have:=this.sub;simpa using this
 refine WB.value (w':=w) (v:=e'.pk c') ?_ (YC.same (by simp only[Slot.ok];exact⟨c',C,rfl⟩));have:=Gf (P:=F.P) D C hA hS;simp[execOp,E,Instr.loadAt,Instr.sureAddr,this]
end
end Go.Sw
namespace Go.Sw
open Go Go.RowKit
section
variable {F:XO}{ops:Array Oper}{o:Oper}{os:List Oper}{σ σ' gh:AS}{s:Slot}{new:List (Nat×WA)}
theorem J.k(h:JO F o σ s new)(k:J F ops os (σ.put o.dst s new) σ')(g:o.guard= .none:=by rfl)(hf:σ.free new=true:=by rfl)(hd:gQ o.dst F.N=true:=by rfl):J F ops (o::os) σ σ':=J.cons (.none g) h hf hd k
theorem J.mv{d:Option Tmp}{x:Operand}{ty:TypeId}{p:String}{af:Array Edge}(hx:dF σ.g x=some s)(k:J F ops os (σ.put d s []) σ')(hd:gQ d F.N=true:=by rfl):J F ops (⟨d,.move x,ty,p,af,none⟩::os) σ σ':=J.cons (.none rfl) (aD hx) rfl hd k
theorem J.t(h:JM F o σ σ')(k:J F ops os σ' gh)(g:o.guard= .none:=by rfl):J F ops (o::os) σ gh:=AI (.none g) h k
end
theorem aw.c{σ:AS}{r:Nat->Nat}{ls:List Nat}{t:Nat}{s':Slot}{g:List (Nat×Slot)}(h:lk σ.g t=some (s'.map r))(k:aw σ r ls g):aw σ r ls ((t,s')::g):= .cons h .same k
theorem X6.c{σ:AS}{r:Nat->Nat}{ls:List Nat}{s s':Slot}{l l':List Slot}(h:s=s'.map r)(k:X6 σ r ls l l'):X6 σ r ls (s::l) (s'::l'):= .cons (.of_eq h) k
end Go.Sw
namespace Go.Sw
open Go Go.RowKit
section
variable {F:XO}{σ:AS}{pb:Option Nat}{ty:TypeId}{p:String}{af:Array Edge}{gd:Option (Nat×Bool)}{x y z:Operand}
theorem vX{T U:TypeId}{l l':List Slot}{i off n:Nat}(pn qn:Nat)(hx:dF σ.g x=some (.ptr i off))(he:aX σ.d i=some (.box T l pb))(h1:Nat.beq (GQ (l.take pn)) off=true)(h2:Nat.beq (GQ ((l.drop pn).take qn)) n=true)(hy:dF σ.g y=some (.agg l'))(W9:Nat.beq (GQ l') n=true)(hnt:l'.all Slot.plain=true)
  (hS:∀w,(sizeOf U).run F.P w= .ok n w):JM F ⟨none,.store U x y,ty,p,af,gd⟩ σ ⟨σ.g,(i,.box T (Se l pn qn l') pb)::σ.d⟩:=by
 replace W9:=A1 W9;refine qC he rfl fun ρ a w A B=>?_;have K:=cK A B (Op.store U x y).operands;obtain⟨b,S,C,L,D,M⟩:=zV K (x:=x) (by simp[Op.operands]) hx he;have z:=Ki B hy;simp only[Slot.ok] at z;obtain⟨N,h,u⟩:=z;obtain⟨E,c,G,rfl,O,Q,R⟩:=Ms h1 h2 M;have H:=lC (P:=F.P) (w:=w) (U:=U) (a:=E) (c:=c) (e:=G) (v:=a.eval y) hS (by rw[h];simp[Value.cells,Lr u,W9]) (by rw[h];simpa[Value.cells] using CY hnt u) D O Q;refine⟨b,w.setRow b (E++((a.eval y).cells.toList++G)).toArray,.inl (by rw[C];rfl),bp.setRow w b _,?_,fun I=>?_⟩
 ·exact lD L H
 ·refine⟨⟨b,_,C,setRow_heap w b _ _ T _ D,?_⟩,(A.own i _ he).2⟩;refine fV _ _ ?_ I (fun _ _=>rfl);rw[h];simpa[Value.cells] using R N u
end
def vC:List (Nat×Nat)->Nat->Nat
 | [],i=>i+1000000000
 | (a,b)::l,i=>bif Nat.beq a i then b else vC l i
def SG:List (Nat×Nat)->Bool
 | []=>true
 | (_,b)::l=>Nat.blt b 1000000000 && (l.all fun q=> !Nat.beq q.2 b) && SG l
theorem HT:∀(l:List (Nat×Nat)) (i:Nat),(∃q∈l,vC l i=q.2)\/vC l i=i+1000000000
 | [],i=> .inr rfl
 | (a,b)::l,i=>by
  unfold vC;cases Nat.beq a i with
  |true=>exact .inl ⟨(a,b),ao,rfl⟩
  |false=>
   rcases HT l i with⟨q,u,z⟩| h
   ·exact .inl ⟨q,aj _ u,z⟩
   ·exact .inr h
theorem HU:∀(l:List (Nat×Nat)),SG l=true->∀q∈l,q.2<1000000000
 | [],_,q,h=>by simp at h
 | (a,b)::l,h,q,u=>by
  simp only[SG,G7] at h;rcases q9.1 u with rfl | u
  ·exact B3 h.1.1
  ·exact HU l h.2 q u
theorem dG:∀{l:List (Nat×Nat)},SG l=true->∀i j,vC l i=vC l j->i=j
 | [],_,i,j,h=>by unfold vC at h;omega
 | (a,b)::l,A,i,j,h=>by
  have C:=HU _ A;simp only[SG,G7] at A;have D:=C (a,b) ao;have B:∀i,vC l i≠b:=by
   intro i e;rcases HT l i with⟨q,z,u⟩| u
   ·have:=o6.1 A.1.2 q z;rw[<-u,e] at this;simp at this
   ·simp only at D;omega
  unfold vC at h;cases z:Nat.beq a i with
  |true=>
   cases u:Nat.beq a j with
   |true=>rw[<-A1 z,<-A1 u]
   |false=>rw[z,u] at h;exact absurd h.symm (B j)
  |false=>
   cases u:Nat.beq a j with
   |true=>rw[z,u] at h;exact absurd h (B i)
   |false=>rw[z,u] at h;exact dG A.2 i j h
end Go.Sw
namespace Go.Sw
open Go Go.RowKit
theorem Qv{β:Type}{κ:IntKind}{f:Wr β}{S:Nat->Prop}{w1:World}(k:Int):∀(m:List (Int×β)) (es:List MapEntry) (i:Nat),Xw (Wr.int κ) f S w1 m es->
  Instr.findNow (.int κ) (.int κ k) es i=some ((kp (m.map (·.1)) k).bind fun j=>(es[j]?).map fun x=>(i+j,x.val))
 | [],[],i,_=>by simp[Instr.findNow,kp]
 | (a,b)::m,x::xs,i,⟨⟨E,B,C⟩,F,D⟩=>by
  have u:x.key= .int κ a:=by rw[C];rw[B.1];rfl
  have z:=Qv k m xs (i+1) D;simp only[Instr.findNow,u,Instr.sameNow,l6,H9,kp];by_cases c:a=k
  ·subst c;simp
  ·have A:(k==a)=false:=by simp;exact fun h=>c h.symm
   rw[A,WV c];simp only[z];cases kp (m.map (·.1)) k with
   |none=>rfl
   |some j=>simp[aDu,aDf 1 j]
 | [],_::_,_,h=>h.elim
 |_::_,[],_,h=>h.elim
theorem Hz{β:Type}{κ:IntKind}{f:Wr β}{S:Nat->Prop}{w1:World}(k:Int):∀(m:List (Int×β)) (es:List MapEntry),Xw (Wr.int κ) f S w1 m es->
  (kp (m.map (·.1)) k=none->fQ m k=none)/\∀j,kp (m.map (·.1)) k=some j->∃v x,fQ m k=some v/\es[j]? =some x/\f.val v S w1 x.val
 | [],[],_=>⟨fun _=>rfl,fun j h=>by simp[kp] at h⟩
 | (a,b)::m,x::xs,⟨G,D,E⟩=>by
  obtain⟨u,z⟩:=Hz k m xs E;simp only[H9,kp,fQ];by_cases c:a=k
  ·rw[XC c,XC c];exact⟨fun h=>by simp at h,fun j h=>by simp at h;subst h;exact⟨b,x,rfl,rfl,D⟩⟩
  ·rw[WV c,WV c];refine⟨fun h=>u (by simpa using h),fun j h=>?_⟩;cases hk:kp (m.map (·.1)) k with
   |none=>rw[hk] at h;simp at h
   |some F=>
    rw[hk] at h;simp at h;subst h;obtain⟨v,y,A,B,C⟩:=z F hk;exact⟨v,y,A,by simpa using B,C⟩
 | [],_::_,h=>h.elim
 |_::_,[],h=>h.elim
theorem Et{β:Type}{κ:IntKind}{P:Program}{T:TypeId}{f:Wr β}{S:Nat->Prop}{w1:World}(hT:∀w,(underlying T).run P w= .ok (.int κ) w)(k:Int)(w:World)(m:List (Int×β))(es:List MapEntry)(h:Xw (Wr.int κ) f S w1 m es):
  (Instr.findKey T (.int κ k) es).run P w= .ok ((kp (m.map (·.1)) k).bind fun j=>(es[j]?).map fun x=>(j,x.val)) w:=by
 have:=Qv k m es 0 h;simp only[aC4] at this;simp only[Instr.findKey,Sem.run_bind,hT,Result.andThen_ok,this];rfl
section
variable {F:XO}{σ:AS}{d:Option Tmp}{ty:TypeId}{p:String}{af:Array Edge}{gd:Option (Nat×Bool)}{x y z:Operand}{β:Type}{κ:IntKind}{n':Nat}{M KT KT' VT:TypeId}{f:Wr β}{m m':List (Int×β)}{i:Nat}{k:Int}
theorem Nj{u:β}{zv:Value}(hx:dF σ.g x=some (.ref i))(hd:aX σ.d i=some (.mp (Wr.int κ) f m))(hy:dF σ.g y=some (.v (Wr.int κ) k))
  (hM:∀w,(underlying M).run F.P w= .ok (.map KT VT) w) (hT:∀w,(underlying KT).run F.P w= .ok (.int κ) w) (hk:s8 n' F.P KT (Wr.int κ)) (J0:Nat.ble n' 10000=true)
  (hz:∀w,(zeroValue VT).run F.P w= .ok zv w) (fx:∀S w,f.val u S w zv):JO F ⟨d,.lookup M x y true,ty,p,af,gd⟩ σ (.WU [.v f ((fQ m k).getD u),.v Wr.bool (fQ m k).isSome]) []:=by
 intro ρ S a w K;obtain⟨E,N,_⟩:=yT K (x:=x) (by simp[Op.operands]) hx hd;obtain⟨b,C,ck,G,O,H⟩:=N;have h:=K.slot y (by simp[Op.operands]) _ hy;simp only[Slot.ok] at h;obtain⟨I,h,Q⟩:=h;have A:a.eval y= .int κ k:=by rw[Q,h.1];rfl
 have z:=Et hT k w m C.toList H;have B:=hk 10000 (B3 J0) C.isEmpty w S w k I h;have L:(Wr.int κ).pk I= .int κ k:=by rw[h.1];rfl
 rw[L] at B;have D:=MapKept.run_getObj_map (P:=F.P) O;obtain⟨R,T⟩:=Hz k m C.toList H;have WU:∀{v:Value} {t:β} {c:Bool},f.val t S w v->(Slot.WU [.v f t,.v Wr.bool c]).ok ρ S w (.tuple #[v,.bool c]):=by
  intro v t c A;simp only[Slot.ok];refine⟨[v,.bool c],rfl,?_⟩;simp only[aW,Slot.ok];exact⟨v,[.bool c],rfl,A,.bool c,[],rfl,⟨[.bool c],rfl,rfl⟩,rfl⟩
 cases hm:kp (m.map (·.1)) k with
 |none=>
  rw[hm] at z;have:=R hm;rw[this];refine WB.value (w':=w) (v:= .tuple #[zv,.bool false]) ?_ (YC.same (WU (fx _ _)));simp[execOp,E,G,A,Instr.lookup,hM,D,B,z,hz]
 |some j=>
  rw[hm] at z;obtain⟨v,q,U,V,X⟩:=T j hm;rw[U];rw[cM,V] at z;refine WB.value (w':=w) (v:= .tuple #[q.val,.bool true]) ?_ (YC.same (WU X));simp[execOp,E,G,A,Instr.lookup,hM,D,B,z]
theorem Ve{u:β}{zv:Value}(hx:dF σ.g x=some (.ref i))(hd:aX σ.d i=some (.mp (Wr.int κ) f m))(hy:dF σ.g y=some (.v (Wr.int κ) k))
  (hM:∀w,(underlying M).run F.P w= .ok (.map KT VT) w) (hT:∀w,(underlying KT).run F.P w= .ok (.int κ) w) (hk:s8 n' F.P KT (Wr.int κ)) (J0:Nat.ble n' 10000=true)
  (hz:∀w,(zeroValue VT).run F.P w= .ok zv w) (fx:∀S w,f.val u S w zv):JO F ⟨d,.lookup M x y false,ty,p,af,gd⟩ σ (.v f ((fQ m k).getD u)) []:=by
 intro ρ S a w K;obtain⟨E,N,_⟩:=yT K (x:=x) (by simp[Op.operands]) hx hd;obtain⟨b,B,ck,G,O,H⟩:=N;have h:=K.slot y (by simp[Op.operands]) _ hy;simp only[Slot.ok] at h;obtain⟨I,h,Q⟩:=h;have C:a.eval y= .int κ k:=by rw[Q,h.1];rfl
 have z:=Et hT k w m B.toList H;have A:=hk 10000 (B3 J0) B.isEmpty w S w k I h;have L:(Wr.int κ).pk I= .int κ k:=by rw[h.1];rfl
 rw[L] at A;have D:=MapKept.run_getObj_map (P:=F.P) O;obtain⟨R,T⟩:=Hz k m B.toList H;cases hm:kp (m.map (·.1)) k with
 |none=>
  rw[hm] at z;have:=R hm;rw[this];refine WB.value (w':=w) (v:=zv) ?_ (YC.same (by simp only[Slot.ok];exact fx _ _));simp[execOp,E,G,C,Instr.lookup,hM,D,A,z,hz]
 |some j=>
  rw[hm] at z;obtain⟨v,q,U,V,X⟩:=T j hm;rw[U];rw[cM,V] at z;refine WB.value (w':=w) (v:=q.val) ?_ (YC.same (by simp only[Slot.ok];exact X));simp[execOp,E,G,C,Instr.lookup,hM,D,A,z]
theorem Nk{v:β}(hm:Hn m k v=some m')(hx:dF σ.g x=some (.ref i))(hd:aX σ.d i=some (.mp (Wr.int κ) f m))(hy:dF σ.g y=some (.v (Wr.int κ) k))(hz:dF σ.g z=some (.v f v))
  (hM:∀w,(underlying M).run F.P w= .ok (.map KT VT) w) (hT:∀w,(underlying KT).run F.P w= .ok (.int κ) w) (hk:s8 n' F.P KT (Wr.int κ)) (J0:Nat.ble n' 10000=true):
  JM F ⟨none,.mapUpdate M x y z,ty,p,af,gd⟩ σ ⟨σ.g,(i,.mp (Wr.int κ) f m')::σ.d⟩:=by
 obtain⟨aa,rfl⟩:=Qj hm;refine qC hd rfl fun ρ a w X hs=>?_;have K:=cK X hs (Op.mapUpdate M x y z).operands;obtain⟨h1,h2,_⟩:=yT K (x:=x) (by simp[Op.operands]) hx hd;obtain⟨b,u,A,C,D,E⟩:=h2;have h:=K.slot y (by simp[Op.operands]) _ hy;have G:=K.slot z (by simp[Op.operands]) _ hz;simp only[Slot.ok] at h G;have Q:=h;obtain⟨N,h,wm⟩:=h;have R:a.eval y= .int κ k:=by rw[wm,h.1];rfl
 have H:=Et hT k w m u.toList E;have S:kp (m.map (·.1)) k=none:=by
  cases zd:kp (m.map (·.1)) k with
  |none=>rfl
  |some j=>obtain⟨v,_,O,_⟩:=(Hz k m u.toList E).2 j zd;rw[aa] at O;cases O
 rw[S] at H;have I:=hk 10000 (B3 J0) false w _ w k N h;have T:(Wr.int κ).pk N= .int κ k:=by rw[h.1];rfl
 rw[T] at I;have U:=MapKept.run_getObj_map (P:=F.P) D;have V:=fun o=>MapKept.run_setObj_map (P:=F.P) o D;have L:=MapKept.heap_set (o':= .map (u.push { key:=a.eval y,val:=a.eval z,born:=A }) (A+1)) D;refine⟨b,{ w with heap:=w.heap.setIfInBounds b (.map (u.push { key:=a.eval y,val:=a.eval z,born:=A }) (A+1)) },.inl (by rw[C];rfl),⟨by simp,L.2,rfl,rfl,rfl⟩,?_,fun B=>?_⟩
 ·simp[execOp,h1,C,R,Instr.mapUpdate,hM,U,I,H,V]
 ·refine⟨b,_,_,C,L.1,?_⟩;rw[aDl];exact Mu (gR Q B) (gR G B) (zQ B E)
theorem Qw{α:Type}{e:Wr α}{S:Nat->Prop}{w:World}:∀{m:List (α×β)} {es:List MapEntry} (q:Nat),Xw e f S w m es->Xw e f S w (m.eraseIdx q) (es.eraseIdx q)
 | [],[],_,_=>trivial
 | (_,_)::_,_::_,0,⟨_,_,h⟩=>h
 | (_,_)::_,_::_,q+1,⟨u,z,A⟩=>⟨u,z,Qw q A⟩
 | [],_::_,_,h=>h.elim
 |_::_,[],_,h=>h.elim
theorem Nl(hx:dF σ.g x=some (.ref i))(hd:aX σ.d i=some (.mp (Wr.int κ) f m))(hy:dF σ.g y=some (.v (Wr.int κ) k))
  (hM:∀w,(underlying M).run F.P w= .ok (.map KT VT) w) (hT:∀w,(underlying KT).run F.P w= .ok (.int κ) w) (hk:s8 n' F.P KT (Wr.int κ)) (J0:Nat.ble n' 10000=true):
  JM F ⟨none,.call ⟨.builtin .delete,#[x,y],#[M,KT']⟩,ty,p,af,gd⟩ σ ⟨σ.g,(i,.mp (Wr.int κ) f (Gm m k))::σ.d⟩:=by
 rintro a w ⟨⟨ρ,R,S⟩,r8,ZG⟩;have K:=cK R S (Op.call ⟨.builtin .delete,#[x,y],#[M,KT']⟩).operands;obtain⟨O,h2,_⟩:=yT K (x:=x) (by simp[Op.operands,Call.operands]) hx hd;obtain⟨b,A,B,C,G,D⟩:=h2;have h:=K.slot y (by simp[Op.operands,Call.operands]) _ hy;simp only[Slot.ok] at h;obtain⟨Q,h,wm⟩:=h;have H:a.eval y= .int κ k:=by rw[wm,h.1];rfl
 have u:=Et hT k w m A.toList D;have E:=hk 10000 (B3 J0) A.isEmpty w _ w k Q h;have T:(Wr.int κ).pk Q= .int κ k:=by rw[h.1];rfl
 rw[T] at E;have I:=MapKept.run_getObj_map (P:=F.P) G;have L:=fun o=>MapKept.run_setObj_map (P:=F.P) o G;have U:ZE (ρ i).v=some b:=by rw[C];rfl
 obtain⟨z,H7,aa⟩:∃z:Array MapEntry,(execOp a.eval ⟨none,.call ⟨.builtin .delete,#[x,y],#[M,KT']⟩,ty,p,af,gd⟩).run F.P w= .ok (.value (.tuple #[])) { w with heap:=w.heap.setIfInBounds b (.map z B) }/\Xw (Wr.int κ) f (Un F.S0 ρ σ.d) w (Gm m k) z.toList:=by
  unfold Gm;cases zd:kp (m.map (·.1)) k with
  |none=>
   rw[zd] at u;simp only[Option.bind_none] at u;exact⟨A,by simp[execOp,resolve,invoke,builtin,Builtin.delete_,O,C,H,hM,I,E,u,L],D⟩
  |some q=>
   rw[zd] at u;obtain⟨_,xq,_,e2,_⟩:=(Hz k m A.toList D).2 q zd;rw[cM,e2] at u;refine⟨A.eraseIdxIfInBounds q,by simp[execOp,resolve,invoke,builtin,Builtin.delete_,O,C,H,hM,I,E,u,L],?_⟩;simp only[Array.toList_eraseIdxIfInBounds];exact Qw q D
 have N:=MapKept.heap_set (o':= .map z B) G;refine WB.value H7 ?_
 obtain⟨k1,k2⟩:=R.upd (en':= .mp (Wr.int κ) f (Gm m k)) hd (.inl U) (b:=b) (w':={ w with heap:=w.heap.setIfInBounds b (.map z B) }) ⟨by simp,N.2,rfl,rfl,rfl⟩ (fun V=>by
  exact⟨b,z,B,C,N.1,zQ V aa⟩)
 exact⟨⟨ρ,k1,fun t s X=>Slot.VX s _ (S t s X) k2 (fun _ _=>rfl)⟩,r8,ZG⟩
end
end Go.Sw
namespace Go.Sw
open Go Go.RowKit
def Eu(gs:List FuncId):Wr Nat where
 n:=1
 agg:=false
 ok i _ _ cs:=(∃g,gs[i]? =some g/\cs=[.func (.func g) #[] #[]])\/(gs[i]? =none/\cs=[.nilFunc])
 len h:=by rcases h with⟨_,_,rfl⟩|⟨_,rfl⟩<;>rfl
 one _:=rfl
 cell h c hc:=by rcases h with⟨_,_,rfl⟩|⟨_,rfl⟩<;>(simp at hc;subst hc;rfl)
 mono h _:=h
theorem MP{gs:List FuncId}{i:Nat}{g:FuncId}{S:Nat->Prop}{w:World}{u:Value}(hg:gs[i]? =some g)(h:(Eu gs).val i S w u):u= .func (.func g) #[] #[]:=by
 obtain⟨A,h,rfl⟩:=h;rcases h with⟨B,z,rfl⟩|⟨z,rfl⟩
 ·rw[hg] at z;cases z;rfl
 ·rw[hg] at z;cases z
section
variable {F:XO}{σ:AS}{d:Option Tmp}{ty:TypeId}{p:String}{af:Array Edge}{gd:Option (Nat×Bool)}{x y z:Operand}
theorem Arg.toN{α:Type}{e:Wr α}{xs:List α}{ZR:Bool}(ZI:xs≠ [])(h:dF σ.g x=some (.v (Wr.sl e) xs)):Arg σ ZR x (.v (Wr.J4 e) (false,xs)):=by
 have z:Arg σ ZR x (.v (Wr.sl e) xs):= .dir h;intro ρ S a w K;have u:=z ρ S a w K;simp only[Slot.ok] at u ⊢;obtain⟨A,B,C⟩:=u;exact⟨A,HS ZI _ _ _ B,C⟩
theorem rA{o:Oper}{g:FuncId}{new:List (Nat×WA)}(gs:List FuncId)(i:Nat)(hg:gs[i]? =some g)(h:JO F o σ (.j2 g []) new):JO F o σ (.v (Eu gs) i) new:=by
 intro ρ S a w K;refine(h ρ S a w K).mono ?_;rintro u E ⟨ρ',B,C,A,D⟩;refine⟨ρ',B,C,?_,D⟩;simp only[Slot.ok] at A ⊢;obtain⟨vs,rfl,z⟩:=A;simp only[aW] at z;subst z;exact⟨[.func (.func g) #[] #[]],.inl ⟨g,hg,rfl⟩,rfl⟩
theorem Cd(gs:List FuncId)(i:Nat)(hg:gs[i]? =none):JO F ⟨d,.assign (.const .nilFunc),ty,p,af,gd⟩ σ (.v (Eu gs) i) []:=by
 intro ρ S a w K;refine WB.value (w':=w) (v:= .nilFunc) (by simp[execOp,Act.eval]) (YC.same ?_);simp only[Slot.ok];exact⟨[.nilFunc],.inr ⟨hg,rfl⟩,rfl⟩
theorem DP{gs:List FuncId}{i:Nat}{xs:List Operand}{ts:Array TypeId}{ss:List Slot}{res:Slot}{YM WJ:(Nat->Nat)->List (Nat×WA)}{D:List (Nat×WA)}{K H:List Nat}(r:Nat->Nat)(hr:∀i j,r i=r j->i=j)(hx:dF σ.g x=some (.v (Eu gs) i))
  (hc:∃f,gs[i]? =some f/\(∀args w,(callFunc f args).run F.P w= .ok (.enter f args) w)/\∀A,VZ F.P f ss (YM A) res (WJ A)) (ha:B5 σ r xs ss) (B9:∀A,B2 σ r A (YM A)) (E7:∀A,ZM σ r A (WJ A) D K)
  (hH:∀A,(YM A).map (fun x=>r x.1)=H) (YN:Bf σ.g (iY σ.d H) H K D=true) (P4:Pn σ H D=true) (YX:∀A,lB res (WJ A)=true) (jk:K.all (fun k=>iF k H)=true) (j8:gQ d F.N=true):
  JM F ⟨d,.call ⟨.value x,xs.toArray,ts⟩,ty,p,af,gd⟩ σ ⟨iR d (res.map r) σ.g,D++iY σ.d H⟩:=by
 obtain⟨f,ab,YE,hc⟩:=hc;rintro a w ⟨⟨ρ,z,S⟩,hz,ZG⟩;let A:Nat->Nat:=fun i=>q8 (ρ (r i)).v
 have O:∀i b,(ρ (r i)).v= .pointer (some ⟨b,0,none⟩)->A i=b:=fun i b h=>by show q8 (ρ (r i)).v=b;rw[h];rfl
 have B:=(B9 A).spec z.own O;have T:∀k,(Un F.S0 ρ σ.d k/\¬mR (fun i=>ρ (r i)) (YM A) k)->k<w.heap.size:=by
  rintro k ⟨h |⟨i,u,C,M⟩,_⟩
  ·exact T4 (z.low k h) z.size
  ·exact(z.fresh i u k C M).2
 have Q:Un (fun k=>Un F.S0 ρ σ.d k/\¬mR (fun i=>ρ (r i)) (YM A) k) (fun i=>ρ (r i)) (YM A)=Un F.S0 ρ σ.d:=by
  funext k;refine propext ⟨fun h=>?_,fun h=>?_⟩
  ·rcases h with h |⟨i,u,C,M⟩
   ·exact h.1
   ·obtain⟨⟨L,E⟩,_⟩:=B i u C;exact .inr ⟨r i,L,E,M⟩
  ·by_cases G:mR (fun i=>ρ (r i)) (YM A) k
   ·exact .inr G
   ·exact .inl ⟨h,G⟩
 have U:Ins (fun k=>Un F.S0 ρ σ.d k/\¬mR (fun i=>ρ (r i)) (YM A) k) (fun i=>ρ (r i)) w (YM A):=by
  refine⟨fun i u h=>?_,fun i u b h I=>?_,fun i u b h I X=>X.2 ⟨i,u,h,I⟩,fun i j u aa b hi hj bi bj=>?_⟩
  ·rw[Q];exact(B i u h).2
  ·obtain⟨⟨L,E⟩,_⟩:=B i u h;exact(z.fresh _ _ b E I).2
  ·obtain⟨⟨L,E⟩,_⟩:=B i u hi;obtain⟨⟨di,h4⟩,_⟩:=B j aa hj;exact hr _ _ (z.inj _ _ _ _ b E h4 bi bj)
 have K:=cK z S (Op.call ⟨.value x,xs.toArray,ts⟩).operands;have V:=ha.spec (ys:=(Op.call ⟨.value x,xs.toArray,ts⟩).operands) (fun x hx=>by simp[Op.operands,Call.operands,hx]) K;have R:=K.slot x (by simp[Op.operands,Call.operands]) _ hx;simp only[Slot.ok] at R;have C:a.eval x= .func (.func f) #[] ([]:List Value).toArray:=MP ab R;refine WB.enter (Qk C YE) ?_;rw[ai];refine(hc A _ w _ _ T U (by rw[Q];exact V)).mono ?_;rintro e w' ⟨v,ρ',rfl,G⟩;exact⟨v,rfl,St.J8 hr z S hz ZG O (B9 A) (E7 A) (hH A) YN P4 (YX A) jk j8 G⟩
end
end Go.Sw
namespace Go.Sw
open Go Go.RowKit
section
variable {F:XO}{σ:AS}{pb:Option Nat}{d:Option Tmp}{ty:TypeId}{p:String}{af:Array Edge}{gd:Option (Nat×Bool)}{x y z:Operand}
theorem uK{α:Type}{T U:TypeId}{l:List Slot}{i off:Nat}{s0:Slot}(j:Nat)(E:TypeId)(e:Wr α)(hx:dF σ.g x=some (.ptr i off))(he:aX σ.d i=some (.box T l pb))(ho:nM l off=some s0)(K5:s0.sz=1)
  (hS:∀w,(sizeOf U).run F.P w= .ok 1 w) (hf:σ.free [(j,.arr E e [])]=true):JM F ⟨none,.store U x (.const (.slice none 0 0)),ty,p,af,gd⟩ σ ⟨σ.g,(i,.box T (nX l off (.ref j)) pb)::(j,.arr E e [])::σ.d⟩:=by
 rintro a w ⟨⟨ρ,hc,hs⟩,hz,ZG⟩;obtain⟨ρ',G,h2,h3,h4⟩:=Mm (w:=w) (S:=Un F.S0 ρ σ.d) E e j ρ;obtain⟨C,k2,k3⟩:=hc.put rfl hf G h2 h4;have D:∀t s,lk σ.g t=some s->s.ok ρ' (Un F.S0 ρ' ([(j,.arr E e [])]++σ.d)) w (a.tmps.getD t undef):=fun t s A=>
  Slot.VX s _ (hs t s A) k3 (fun q R=>congrArg LV.v (G q (by
   cases hy:aX [(j,WA.arr E e [])] q with
   |none=>rfl
   |some e=>exact absurd R ((kY hf hy).1 t s A))))
 have M:i≠j:=fun h=>by
  subst h;have:=(kY hf (i:=i) (en:= .arr E e []) (by simp[aX])).2.1;rw[he] at this;cases this
 have B:aX ([(j,.arr E e [])]++σ.d) i=some (.box T l pb):=by
  rw[gM];simp[aX,show Nat.beq j i=false from by cases hb:Nat.beq j i with
   |true=>exact absurd (A1 hb).symm M
   |false=>rfl,he]
 have K:=cK (σ:=⟨σ.g,[(j,.arr E e [])]++σ.d⟩) C D (Op.store U x (.const (.slice none 0 0))).operands;obtain⟨b,cs,H,g2,I,g4⟩:=zV K (x:=x) (by simp[Op.operands]) hx B;obtain⟨L,c,aa,rfl,rfl,g5,g6⟩:=vG ho g4;have N:a.eval (.const (.slice none 0 0))= .slice none 0 0:=by simp[Act.eval]
 have z:=qW (s:= .ref j) rfl h3;rw[<-N] at z;have O:∀u∈(a.eval (.const (.slice none 0 0))).cells.toList,u.oneCell'=true:=fun u V=>Hk z u V (fun e=>by cases e);have Q:=lC (P:=F.P) (w:=w) (U:=U) hS (by have:=nO z;simp only[bo] at this;exact this) O I rfl (by rw[nO g5];exact K5);obtain⟨m1,m2⟩:=C.upd (en':= .box T (nX l L.length (.ref j)) pb) B (b:=b) (.inl (by rw[H];rfl)) (bp.setRow w b (L++((a.eval (.const (.slice none 0 0))).cells.toList++aa)).toArray) fun X=>by
  refine⟨⟨b,_,H,setRow_heap w b _ _ T _ I,?_⟩,(C.own i _ B).2⟩;refine fV _ _ (g6 (.ref j) _ ?_) X (fun _ _=>rfl);refine(vR _ _ z ?_ (fun _ _=>rfl));exact⟨YZ _,fun k _ hn=>⟨rfl,fun h=>hn ((k2 k).1 h)⟩⟩
 exact WB.skip (lD g2 Q) ⟨⟨ρ',m1,fun t s A=>Slot.VX s _ (D t s A) m2 (fun _ _=>rfl)⟩,hz,ZG⟩
def UL(q:List (Nat×Nat×Slot))(d:List (Nat×WA)):Prop:=∀x∈q,∃T l pb,aX d x.1=some (.box T l pb)/\nM l x.2.1=some x.2.2
theorem HV{U:TypeId}{i off:Nat}{s:Slot}{g:List (Nat×Slot)}{dd:List (Nat×WA)}(q:List (Nat×Nat×Slot))(k:Nat)(hd:UL q dd)(hk:q[k]? =some (i,off,s))
  (hld:∀T l pb,aX dd i=some (.box T l pb)->nM l off=some s->JO F ⟨d,.load U x,ty,p,af,gd⟩ ⟨g,dd⟩ s []):JO F ⟨d,.load U x,ty,p,af,gd⟩ ⟨g,dd⟩ s []:=by
 obtain⟨T,l,pb,h,u⟩:=hd _ (aB7 hk);exact hld T l pb h u
def RU(x:Nat×Nat×Slot):WA->Prop
 | .box _ l _=>nM l x.2.1=some x.2.2
 |_=>False
def TX(x:Nat×Nat×Slot)(nw:List (Nat×WA))(dl:List Nat):Prop:=match aX nw x.1 with
 |some h=>RU x h
 |none=>iF x.1 dl=false
def UM(x:Nat×Nat×Slot):List ZO->Prop
 | []=>True
 |it::r=>TX x it.nw it.dl/\UM x r
def VH(d:List (Nat×WA))(its:List ZO):List (Nat×Nat×Slot)->Prop
 | []=>True
 |x::r=>((match aX d x.1 with | some h=>RU x h | none=>False)/\UM x its)/\VH d its r
theorem MQ{x:Nat×Nat×Slot}{en:WA}(h:RU x en):∃T l pb,en= .box T l pb/\nM l x.2.1=some x.2.2:=by
 cases en with
 |box T l pb=>exact⟨T,l,pb,rfl,h⟩
 |_=>exact h.elim
theorem HW{x:Nat×Nat×Slot}:∀{its:List ZO} {i:Nat},UM x its->i<its.length->TX x (its.getD i ⟨.top,[],[],[],[]⟩).nw (its.getD i ⟨.top,[],[],[],[]⟩).dl
 | [],_,_,h=>by simp at h
 |_::_,0,h,_=>h.1
 |_::r,i+1,h,u=>by have:=HW (its:=r) (i:=i) h.2 (by simpa using u);simpa using this
theorem BI{x:Nat×Nat×Slot}{nw:Nat->List (Nat×WA)}{dl:Nat->List Nat}{d:List (Nat×WA)}{L:Nat->Bool}(h0:∃en,aX d x.1=some en/\RU x en):∀{n:Nat},(∀i,i<n->TX x (nw i) (dl i))->∃en,aX (Cc nw dl d n L) x.1=some en/\RU x en
 | 0,_=>h0
 |n+1,h=>by
  have z:=BI (L:=L) h0 (n:=n) fun i D=>h i (by omega);simp only[Cc];cases L n with
  |false=>exact z
  |true=>
   have u:=h n (by omega);simp only[XX,gM];unfold TX at u;cases hx:aX (nw n) x.1 with
   |some en=>rw[hx] at u;exact⟨en,rfl,u⟩
   |none=>
    rw[hx] at u;have:x.1∉dl n:=fun A=>by rw[jB.2 A] at u;cases u
    obtain⟨en,B,C⟩:=z;exact⟨en,by rw[qD,WV this];simpa using B,C⟩
theorem BJ{d:List (Nat×WA)}{its:List ZO}{n:Nat}(hn:n=its.length):∀{q:List (Nat×Nat×Slot)},VH d its q->∀L,UL q (Cc (fun i=>(its.getD i ⟨.top,[],[],[],[]⟩).nw) (fun i=>(its.getD i ⟨.top,[],[],[],[]⟩).dl) d n L)
 | [],_,_=>fun _ h=>by cases h
 |x::r,h,L=>fun y u=>by
  rcases q9.1 u with rfl | u
  ·have z:∃en,aX d y.1=some en/\RU y en:=by
    have:=h.1.1;cases hx:aX d y.1 with
    |some en=>rw[hx] at this;exact⟨en,rfl,this⟩
    |none=>rw[hx] at this;exact this.elim
   subst hn;obtain⟨en,B,C⟩:=BI (L:=L) z fun i A=>HW h.1.2 A;obtain⟨T,l,D,rfl,E⟩:=MQ C;exact⟨T,l,D,B,E⟩
  ·exact BJ hn h.2 L y u
theorem Su{α:Type}{xs ys:List α}{lo hi:Int}(hs:Sw.sub xs lo hi=some ys):ys.length=hi.toNat - lo.toNat:=by
 obtain⟨h,u,z,rfl⟩:=gU hs;simp only[V8,E9];omega
theorem MR{α:Type}{xs ys:List α}{lo hi m:Int}{z:α}(hs:Sw.sub xs lo hi=some ys)(hz:Sw.idx ys m=some z):xs[lo.toNat+m.toNat]? =some z:=by
 have u:=Su hs;obtain⟨B,C,D,rfl⟩:=gU hs;obtain⟨E,A,h⟩:=dK hz;rw[List.getElem?_drop,List.getElem?_take] at h;rw[u] at A
 rwa [XC (by omega)] at h
theorem DQ{α:Type}{e:Wr α}{xs ys:List α}{lo hi:Int}{T U E:TypeId}{i:Nat}(hs:Sw.sub xs lo hi=some ys)(hx:dF σ.g x=some (.sub i (lo.toNat*e.n) (hi.toNat - lo.toNat)))(he:aX σ.d i=some (.arr T e xs))(hU:∀w,(underlying U).run F.P w= .ok (.slice E) w):
  JO F ⟨d,.call ⟨.builtin .len,#[x],#[U]⟩,ty,p,af,gd⟩ σ (.v (Wr.int .i64) (ys.length:Int)) []:=by
 intro ρ S a w K;have A:=Su hs;obtain⟨L,M,C,_⟩:=gU hs;have u:=K.slot x (by simp[Op.operands,Call.operands]) _ hx;simp only[Slot.ok] at u;obtain⟨⟨D,l0,N,G⟩,c,o,O,Q,H⟩:=u;have B:j4 T e xs S w (ρ i).v:=(K.C6 x (by simp[Op.operands,Call.operands]) _ hx i (by simp[Slot.YS]) _ he).1;have h:∃z,a.eval x= .slice z (hi.toNat - lo.toNat) c:=by
  rw[H,G];cases D with
  |none=>exact⟨_,rfl⟩
  |some q=>exact⟨_,rfl⟩
 obtain⟨z,h⟩:=h;have I:(ys.length:Int)<9223372036854775808:=by
  rcases B with⟨rfl,_⟩|⟨b,R,V,X,aa,_,_,_,_,_,W9⟩
  ·simp at C;omega
  ·omega
 refine WB.value (w':=w) (v:= .int .i64 ys.length) ?_ (YC.same (tK (De (by omega)) ρ S w));rw[A];simp[execOp,resolve,invoke,builtin,h,Hi hU]
theorem DR{α:Type}{e:Wr α}{xs ys:List α}{lo hi:Int}{T U E:TypeId}{k:IntKind}{m:Int}{z:α}{i:Nat}(hs:Sw.sub xs lo hi=some ys)(hz:Sw.idx ys m=some z)(hx:dF σ.g x=some (.sub i (lo.toNat*e.n) (hi.toNat - lo.toNat)))(he:aX σ.d i=some (.arr T e xs))(hy:dF σ.g y=some (.v (Wr.int k) m))
  (hU:∀w,(underlying U).run F.P w= .ok (.slice E) w) (hE:∀w,(sizeOf E).run F.P w= .ok e.n w):JO F ⟨d,.indexAddr U x y,ty,p,af,gd⟩ σ (.el i (lo.toNat+m.toNat) e.n 0) []:=by
 intro ρ S a w K;have N:=Su hs;obtain⟨O,Q,I,_⟩:=gU hs;obtain⟨L,R,V⟩:=dK hz;have B:=K.slot x (by simp[Op.operands]) _ hx;simp only[Slot.ok] at B;obtain⟨⟨X,l0,c0,g0⟩,c,o,g1,h,M⟩:=B;have C:j4 T e xs S w (ρ i).v:=(K.C6 x (by simp[Op.operands]) _ hx i (by simp[Slot.YS]) _ he).1;have D:=(fX K (x:=y) (by simp[Op.operands]) hy).1;rcases C with⟨rfl,_⟩|⟨b,cap,u,cs,aa,A,_⟩
 ·simp at I;omega
 have G:o=lo.toNat*e.n:=by
  rcases h with h | h
  ·exact h
  ·omega
 subst G;have H:a.eval x= .slice (some ⟨b,u.length+lo.toNat*e.n,none⟩) (hi.toNat - lo.toNat) c:=by rw[M,A];rfl
 refine WB.value (w':=w) (v:= .pointer (some ⟨b,u.length+lo.toNat*e.n+m.toNat*e.n,none⟩)) ?_ (YC.same (by simp only[Slot.ok];exact⟨⟨b,_,_,_,A⟩,by rw[A];simp[Mh,L6,aDu]⟩));have:=Dd (P:=F.P) (w:=w) (b:=b) (off:=u.length+lo.toNat*e.n) (len:=hi.toNat - lo.toNat) (cap:=c) (k:=k) hU hE L (by omega:m<((hi.toNat - lo.toNat:Nat):Int));simp only[execOp,H,D];simp[this]
end
section
variable {F:XO}{ops:Array Oper}{OK:List (Nat×WA)->Prop}{os:List Oper}{σ σ2 σ':AS}{its:List ZO}{d:Option Tmp}{ty:TypeId}{p:String}{af:Array Edge}{gd:Option (Nat×Bool)}{o:Oper}
theorem XZ.aKi{gs:List FuncId}{fi:Nat}{x:Operand}{xs:List Operand}{ts:Array TypeId}{ss:List Slot}{res:Slot}{YM WJ:(Nat->Nat)->List (Nat×WA)}{D:List (Nat×WA)}{K H:List Nat}(g:GK ops σ.g ⟨d,.call ⟨.value x,xs.toArray,ts⟩,ty,p,af,gd⟩ true)(r:Nat->Nat)(hr:∀i j,r i=r j->i=j)
  (hx:dF σ.g x=some (.v (Eu gs) fi)) (hc:∃f,gs[fi]? =some f/\(∀args w,(callFunc f args).run F.P w= .ok (.enter f args) w)/\∀A,VZ F.P f ss (YM A) res (WJ A)) (ha:B5 σ r xs ss) (B9:∀A,B2 σ r A (YM A)) (E7:∀A,ZM σ r A (WJ A) D K)
  (hH:∀A,(YM A).map (fun x=>r x.1)=H) (hDK:D.all (fun x=> !iF x.1 H || iF x.1 K)=true) (_:Pn σ H D=true) (YX:∀A,lB res (WJ A)=true) (jk:K.all (fun k=>iF k H)=true) (j8:gQ d F.N=true)
  (k:XZ F ops OK os ⟨iR d (res.map r) σ.g,D++iY σ.d H⟩ its σ'):
  XZ F ops OK (⟨d,.call ⟨.value x,xs.toArray,ts⟩,ty,p,af,gd⟩::os) σ (⟨res.map r,D,D.filter (fun x=> !iF x.1 H),Ld σ.g ⟨d,.call ⟨.value x,xs.toArray,ts⟩,ty,p,af,gd⟩++H,H⟩::its) σ':=by
 refine .mvx (nw:=D) (fr:=D.filter (fun x=> !iF x.1 H)) (dl:=H) (ex:=H) g j8 (fun σ2 G I M=>?_) k;have L:∀x∈D,iF x.1 H=true->iF x.1 K=true:=fun x hx B=>by
  have:=o6.1 hDK x hx;simpa[B] using this
 refine DP r hr ((G.ev (by simp[Op.operands,Call.operands])).trans hx) hc (ha.loc G fun x hx=>by simp[Op.operands,Call.operands,hx]) (fun A=>(B9 A).loc fun l u=>I l (by rw[<-hH A];exact u)) (fun A=>(E7 A).loc fun l u=>I l (jB.1 (o6.1 jk l u))) hH ?_ ?_ YX jk j8
 ·have C:∀l,(!iF l H || iF l K || !iF l (D.map (·.1)))=true:=by
   intro l;cases h:iF l H with
   |false=>simp
   |true=>
    cases h2:iF l (D.map (·.1)) with
    |false=>simp
    |true=>
     obtain⟨x,hx,rfl⟩:=dj.1 (jB.1 h2);simp[L x hx h]
  unfold Bf;simp only[G7,o6];exact⟨fun y _ l _=>C l,fun y _ l _=>C l⟩
 ·unfold Pn;rw[o6];intro x hx;cases B:iF x.1 H with
  |true=>simp
  |false=>
   have h:=o6.1 M x (aCj.2 ⟨hx,by simp[B]⟩);simp only[G7,o6] at h;have E:∀l:List Nat,(!l.contains x.1)=true->(!iF x.1 l)=true:=by
    intro l u;cases h2:iF x.1 l with
    |false=>rfl
    |true=>have:=jB.1 h2;simp at u;exact absurd this u
   simp only[aCi,G7,o6];exact .inr ⟨fun y z=>⟨(h.2 y z).1,E _ (h.2 y z).2⟩,fun y z=>E _ (h.1 y z)⟩
end
end Go.Sw
namespace Go.Sw
open Go Go.RowKit
def dR(v:Value):DE Obj where
 ok o _ w u _:=(u.v= .pointer (some ⟨0,0,none⟩)/\w.cell? ⟨0,0,none⟩=some v)/\w.heap[0]? =some o
 mono:=by
  rintro q S C w D u l ⟨⟨h,z⟩,A⟩ _ B;have:=B 0 (.inl (by rw[h];rfl));refine⟨⟨h,?_⟩,by rw[this];exact A⟩;unfold World.cell? at z ⊢;rw[this];exact z
section
variable {F:XO}{σ:AS}{pb:Option Nat}{d:Option Tmp}{ty:TypeId}{p:String}{af:Array Edge}{gd:Option (Nat×Bool)}{x y z:Operand}
theorem Vf{T T0 E:TypeId}{l:List Slot}{i off b:Nat}(hx:dF σ.g x=some (.ptr i off))(he:aX σ.d i=some (.box T0 l (some b)))(hT:∀w,(underlying T).run F.P w= .ok (.pointer E) w):
  JO F ⟨d,.makeInterface T x,ty,p,af,gd⟩ σ (.v (Wr.c9 (.iface T (.pointer (some ⟨b,off,none⟩))) rfl) ()) []:=by
 intro ρ S a w K;have h:=K.slot x (by simp[Op.operands]) _ hx;simp only[Slot.ok] at h;obtain⟨⟨b0,B⟩,u⟩:=h;have z:=(K.C6 x (by simp[Op.operands]) _ hx i (by simp[Slot.YS]) _ he).1.2 b rfl;rw[z] at u;have A:a.eval x= .pointer (some ⟨b,off,none⟩):=u;exact WB.value (w':=w) (v:= .iface T (.pointer (some ⟨b,off,none⟩))) (by simp[execOp,A,Instr.makeInterface,hT]) (YC.same (by simp only[Slot.ok];exact Hp.2 rfl))
theorem Ko:∀{l:List Slot} {off:Nat} {s:Slot},nM l off=some s->nX l off s=l
 | [],_,_,h=>by cases h
 |t::r,off,s,h=>by
  simp only[nM] at h;simp only[nX];cases h0:Nat.beq off 0 with
  |true=>rw[h0] at h;cases h;rfl
  |false=>
   rw[h0] at h;simp only[pF] at h ⊢;cases h1:Nat.ble t.sz off with
   |true=>rw[h1] at h;rw[Ko h]
   |false=>rw[h1] at h;cases h
theorem Vg{w:World}{b:Nat}{pre c post:List Value}{u v:Value}{T:TypeId}(hc:c=[u])(h:w.heap[b]? =some (.cells (pre++(c++post)).toArray T (0,0))):
  bp b w (w.setCell ⟨b,pre.length,none⟩ v)/\(w.setCell ⟨b,pre.length,none⟩ v).heap[b]? =some (.cells (pre++([v]++post)).toArray T (0,0)):=by
 subst hc;refine⟨⟨by simp[World.setCell],fun k z=>?_,rfl,rfl,rfl⟩,?_⟩
 ·simp only[World.setCell,Array.getElem?_modify];rw[WV (fun e=>z e.symm)]
 ·simp only[World.setCell,Array.getElem?_modify,l6,h,rh];simp
theorem HX{f:FuncId}{ts:Array TypeId}{ET PT T:TypeId}{i off G b:Nat}{l:List Slot}{v:Value}{e:Option Int}{dz:Int}{go:Obj}
  (eg:∀t w,Calls F.P f #[.nilIface,t] w fun e w'=>e= .returned (.bool false)/\w'=w)
  (aZw:∀(n:Int) (t:Addr) (dz:Value) (w:World),w.cell? ⟨0,0,none⟩=some v->w.cell? t=some dz->w.frozen? t=false->
   Calls F.P f #[.iface ET (.int .i64 n),.iface PT (.pointer (some t))] w fun ev w'=>ev= .returned (.bool true)/\∃o1 o2 o3 o4,w'=((((w.alloc o1).alloc o2).alloc o3).alloc o4).setCell t (.int .i64 n))
  (YE:∀args w,(callFunc f args).run F.P w= .ok (.enter f args) w)
  (hx:dF σ.g x=some (.v (Wr.err ET) e)) (hy:dF σ.g y=some (.v (Wr.c9 (.iface PT (.pointer (some ⟨b,off,none⟩))) rfl) ())) (he:aX σ.d i=some (.box T l (some b))) (ho:nM l off=some (.v (Wr.int .i64) dz))
  (hG:aX σ.d G=some (.dp (dR v) go [])) (hd:gQ d F.N=true):
  JM F ⟨d,.call ⟨.value (.func f),[x,y].toArray,ts⟩,ty,p,af,gd⟩ σ ⟨iR d (.v Wr.bool e.isSome) σ.g,(i,.box T (nX l off (.v (Wr.int .i64) (e.getD dz))) (some b))::σ.d⟩:=by
 rintro a w ⟨⟨ρ,A,R⟩,hz,ZG⟩;have K:=cK A R (Op.call ⟨.value (.func f),[x,y].toArray,ts⟩).operands;have L:=K.slot x (by simp[Op.operands,Call.operands]) _ hx;have D:=K.slot y (by simp[Op.operands,Call.operands]) _ hy;simp only[Slot.ok] at L D;have D:=Hp.1 D;have fin:∀(q:Bool) (w':World) (C:List Slot),Core F ((i,.box T C (some b))::σ.d) ρ w'->Ext (Un F.S0 ρ σ.d) (Un F.S0 ρ ((i,.box T C (some b))::σ.d)) w w'->
   St F ⟨iR d (.v Wr.bool q) σ.g,(i,.box T C (some b))::σ.d⟩ (a.put d (.bool q)) w':=by
  intro q w' C E O;have M:St F ⟨σ.g,(i,.box T C (some b))::σ.d⟩ a w':=⟨⟨ρ,E,fun t s ht=>Slot.VX s _ (R t s ht) O (fun _ _=>rfl)⟩,hz,ZG⟩
  obtain⟨⟨ρ2,H,B⟩,Q,z⟩:=M;have:=St.put (σ:=⟨σ.g,(i,.box T C (some b))::σ.d⟩) (s:= .v Wr.bool q) (new:=[]) (v:= .bool q) (dst:=d) H B Q z rfl hd (YC.same (pJ _ ρ2 _ w'));cases d with
  |none=>exact this
  |some t=>exact this
 refine WB.enter (uI YE) ?_;cases e with
 |none=>
  have E:=Aw.1 L;simp only[H9,aD2,E,D];refine(eg _ w).mono ?_;rintro ev w' ⟨rfl,rfl⟩;refine⟨_,rfl,?_⟩;have hl:nX l off (.v (Wr.int .i64) ((none:Option Int).getD dz))=l:=Ko ho;rw[hl];have M:St F ⟨iR d (.v Wr.bool false) σ.g,σ.d⟩ (a.put d (.bool false)) w':=by
   have:=St.put (s:= .v Wr.bool false) (new:=[]) (v:= .bool false) (dst:=d) A R hz ZG rfl hd (YC.same (pJ _ ρ _ w'));cases d with
   |none=>exact this
   |some t=>exact this
  show St F ⟨iR d (.v Wr.bool false) σ.g,(i,.box T l (some b))::σ.d⟩ _ _;refine St.congr (σ:=⟨iR d (.v Wr.bool false) σ.g,σ.d⟩) (fun _=>rfl) (fun q=>?_) M;show aX ((i,.box T l (some b))::σ.d) q=aX σ.d q;rw[cN];split
  ·rename_i h;subst h;exact he.symm
  ·rfl
 |some n=>
  obtain⟨E,O⟩:=Ax.1 L;simp only[H9,aD2,E,D];obtain⟨⟨b0,cs,H,B,Q⟩,z⟩:=A.own i _ he;have z:=z b rfl;rw[z] at H;simp only[Value.pointer.injEq,B1,Addr.mk.injEq,aEi] at H;subst H;obtain⟨I,c,ab,rfl,rfl,U,q2⟩:=vG ho Q;simp only[Slot.ZL] at U;obtain⟨u,V⟩:∃u,c=[u]:=by
   have:=(Wr.int .i64).len U
   match c,this with
   | [u],_=>exact⟨u,rfl⟩
  have M9:w.cell? ⟨b,I.length,none⟩=some u:=by simp[World.cell?,B,V]
  have aa:w.frozen? ⟨b,I.length,none⟩=false:=by simp[World.frozen?,B]
  have wi:=(A.own G _ hG).1.2;refine(aZw n ⟨b,I.length,none⟩ u w wi M9 aa).mono ?_;rintro ev w' ⟨rfl,o1,o2,o3,o4,rfl⟩;refine⟨_,rfl,?_⟩;have S:Below w.heap.size w ((((w.alloc o1).alloc o2).alloc o3).alloc o4):=
   ((((Below.refl _ w).alloc (YZ _) o1).alloc (by simp) o2).alloc (by simp;omega) o3).alloc (by simp;omega) o4
  obtain⟨k1,X⟩:=A.below S;have XI:b<w.heap.size:=by
   rcases N4 b w.heap.size with h | h
   ·exact h
   ·rw[aBv h] at B;cases B
  have ov:=(S.block b XI).trans B;obtain⟨r1,r2⟩:=Vg (v:= .int .i64 n) V ov;obtain⟨m1,m2⟩:=k1.upd (en':= .box T (nX l I.length (.v (Wr.int .i64) n)) (some b)) he (.inl (by rw[z];rfl)) r1 fun hE=>by
   refine⟨⟨b,_,z,r2,?_⟩,fun c A=>by cases A;exact z⟩;have q3:=q2 (.v (Wr.int .i64) n) [.int .i64 n] (by simp only[Slot.ZL];exact⟨rfl,O⟩);exact fV _ _ (fV _ _ q3 X (fun _ _=>rfl)) hE (fun _ _=>rfl)
  exact fin true _ _ m1 (X.trans m2)
end
end Go.Sw
