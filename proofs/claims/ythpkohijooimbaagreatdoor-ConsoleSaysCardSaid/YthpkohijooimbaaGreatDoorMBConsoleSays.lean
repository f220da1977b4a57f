/- The library over the model: how values lie, what is ours in memory, rules for operations, calls, loops; functions that tell themselves. Conditions: none. -/
import Derived.Test.YthpkohijooimbaaGreatDoorMAConsoleSays
import Derived.Laws.Externs
set_option linter.unusedVariables false
set_option linter.unusedSimpArgs false
namespace Go.Sw
open Go Go.RowKit
variable {α β γ κ:Type}{F F':w8}{ops:Array aBa}{os:List aBa}{O O':AS}{s res s0:Slot}{new d' dd:List (Nat×j2)}{Q:aBd->aBe->aAf->Prop}{ty T2 U:aAg}{p:String}{af:Array Edge}{gd:Option (Nat×Bool)}{pb:Option Nat}{OK:List (Nat×j2)->Prop}{C:List Nat}
def mw(P:aA5)(gf:aA6)(cap:List Slot)(items:List (List Slot)):Prop:=∀(S:Nat->Prop) (w:aAf) (vs:List aA4) (ρ:Nat->LV) (l:Nat) (J:Nat->aAf->Prop) (Jx:aAf->Prop),(∀k,S k->k<w.heap.size)->aG ρ S w cap vs->J 0 w->(∀k W,J k W->w.heap.size<=W.heap.size/\∀b,b<w.heap.size->¬S b->W.heap[b]? =w.heap[b]?)->(∀k W u,J k W->Below W.heap.size W u->J k u)->(∀W u,Jx W->Below W.heap.size W u->Jx u)->(∀k item W0 W us,items[k]? =some item->J k W0->Below W0.heap.size W0 W->aG ρ (λj=>S j\/(w.heap.size<=j/\j<W0.heap.size)) W item us->∃fn tmps assign body,(Instr.yield l us.toArray).run P W= .ok (.round l fn tmps assign body) W/\RoundIn Fence.wide 0 P l fn tmps assign body W λe u=>(e= .returned (.bool true)/\J (k+1) u)\/(e= .returned (.bool false)/\Jx u))->Calls P gf (.func (.yield l) #[] #[]::vs).toArray w λe A=>(∃v,e= .returned v)/\(J items.length A\/Jx A)
structure ItX (F0 F:w8) (gf:aA6) (cap:List Slot) (items:List (List Slot)) (X:Nat->Prop):Prop where
 s:∀k,X k->F.S0 k
 f:∀k,X k->F0.w0.heap.size<=k\/F0.R k
 c:∀k,X k->¬F.R k/\∀o,F.w0.heap[k]?≠some (.deferred o)
 it:∀(S:Nat->Prop) (w:aAf) (vs:List aA4) (ρ:Nat->LV) (l:Nat) (J:Nat->aAf->Prop) (Jx:aAf->Prop),
  (∀k,S k->k<w.heap.size)->aG ρ S w cap vs->J 0 w->
  (∀k W,J k W->w.heap.size<=W.heap.size/\∀b,b<w.heap.size->¬S b->W.heap[b]? =w.heap[b]?)->
  (∀k W W',J k W->Below W.heap.size W W'->J k W')->(∀W W',Jx W->Below W.heap.size W W'->Jx W')->
  (∀k item W0 W us,items[k]? =some item->J k W0->Below W0.heap.size W0 W->aG ρ (λj=>S j\/(w.heap.size<=j/\j<W0.heap.size)) W item us->∃fn tmps assign body,(Instr.yield l us.toArray).run F.P W= .ok (.round l fn tmps assign body) W/\
   RoundIn Fence.wide 0 F.P l fn tmps assign body W λe W'=>(e= .returned (.bool true)/\J (k+1) W'/\∀b,X b->W'.heap[b]? =W.heap[b]?)\/(e= .returned (.bool false)/\Jx W'))->
  (∀b,X b->S b/\w.heap[b]? =F.w0.heap[b]?/\(∀k W W',J k W->ff b W W'->J k W')/\∀W W',Jx W->ff b W W'->Jx W')->
  Calls F.P gf (.func (.yield l) #[] #[]::vs).toArray w λe w'=>(∃v,e= .returned v)/\(J items.length w'\/Jx w')
theorem mw.x{F0 F:w8}{gf:aA6}{cap:List Slot}{items:List (List Slot)}(h:mw F.P gf cap items):ItX F0 F gf cap items λ_=>False:=
 ⟨λ_ h=>h.elim,λ_ h=>h.elim,λ_ h=>h.elim,λS w vs ρ l J u a b c d e f g _=>h S w vs ρ l J u a b c d e f λk A B W C D E G I=>let ⟨fn,tm,as,bd,r1,r2⟩:=g k A B W C D E G I;⟨fn,tm,as,bd,r1,r2.mono λ_ _ h=>h.imp (λh=>⟨h.1,h.2.1⟩) id⟩⟩
def me{ι α δ:Type}(step:ι->α->Option (Step α δ)):List ι->α->Option (Ex α δ)
 | [],y=>some (.u9 y)
 |i::is,y=>match step i y with
  |none=>none
  |some (.next u)=>me step is u
  |some (.done z)=>some (.ret z)
def JL:List Tmp->List Slot->List (Nat×Slot)->List (Nat×Slot) | t::ts,s::ss,g=>JL ts ss ((t,s)::g) | _,_,g=>g
def Ni(A:Nat->Nat):List (Nat×j2)->List (Nat×j2)
 | []=>[]
 | (i,u)::d=>(i,match u with | .box T l _=> .box T l (some (A i)) | .arr T e xs=> .arr T e xs | .mp e f m=> .mp e f m | .dp D x B=> .dp D x B)::Ni A d
theorem zA{A:Nat->Nat}:∀{d:List (Nat×j2)} {i:Nat} {en:j2},aF (Ni A d) i=some en->∃E8,aF d i=some E8/\((∃T l pb,E8= .box T l pb/\en= .box T l (some (A i)))\/en=E8)
 | [],i,en,h=>by simp[Ni,aF] at h
 | (j,e)::d,i,en,h=>by
  simp[Ni] at h;rw[bA] at h;rw[bA];split at h
  ·grind
  ·rename_i u;rw[nS u];exact zA h
theorem Tt{A:Nat->Nat}:∀{d:List (Nat×j2)} {i:Nat} {en:j2},aF d i=some en->∃en',aF (Ni A d) i=some en'
 | [],i,en,h=>by grind [aF]
 | (j,e)::d,i,en,h=>by
  simp[Ni];rw[bA] at h ⊢;split
  ·simp
  ·rename_i u;rw[nS u] at h;exact Tt h
inductive V5 (A:Nat->Nat) (d:List (Nat×j2)):List Nat->Prop
 |nil:V5 A d []
 |cons {i:Nat} {T:aAg} {l:List Slot} {is:List Nat}:aF d i=some (.box T l (some (A i)))->V5 A d is->V5 A d (i::is)
theorem V5.spec{A:Nat->Nat}{d:List (Nat×j2)}{is:List Nat}(h:V5 A d is):∀i∈is,∃T l,aF d i=some (.box T l (some (A i))):=by
 induction h<;>grind
def AQ(F:w8)(O:AS):aBd->aBe->aAf->Prop | .normal,a,w=>St F O a w | _,_,_=>False
def RB{α δ:Type}(F:w8)(ds:α->List (Nat×j2))(dx:δ->List (Nat×j2)):Step α δ->aBd->aBe->aAf->Prop | .next y,.normal,a,w=>St F ⟨[],ds y⟩ a w | .done z,.ret,a,w=>St F ⟨[],dx z⟩ a w | _,_,_,_=>False
theorem Core.pin{F:w8}{d:List (Nat×j2)}{ρ:Nat->LV}{w:aAf}{A:Nat->Nat}(hc:Core F d ρ w)(hA:∀i b,(ρ i).v= .pointer (some ⟨b,0,none⟩)->A i=b):Core F (Ni A d) ρ w/\Un F.S0 ρ (Ni A d)=Un F.S0 ρ d:=by
 have I:Un F.S0 ρ (Ni A d)=Un F.S0 ρ d:=by
  funext k;refine propext ⟨λh=>?_,λh=>?_⟩
  ·rcases h with h |⟨i,D,u,C⟩
   ·exact .inl h
   ·obtain⟨B,E,_⟩:=zA u;exact .inr ⟨i,B,E,C⟩
  ·rcases h with h |⟨i,D,u,C⟩
   ·exact .inl h
   ·obtain⟨K,E⟩:=Tt (A:=A) u;exact .inr ⟨i,K,E,C⟩
 refine⟨⟨hc.low,hc.size,hc.frame,hc.os,hc.tape,hc.output,λi D h=>?_,λi D b h=>?_,λi j D K b L M=>?_,λi D b h=>?_⟩,I⟩
 ·obtain⟨B,u,C⟩:=zA h;rw[I];have:=hc.own i B u;rcases C with⟨T,l,Q,rfl,rfl⟩| rfl
  ·obtain⟨⟨b,cs,G,N,O⟩,_⟩:=this;exact⟨⟨b,cs,G,N,O⟩,λc hc=>by cases hc;rw[G,hA i b G]⟩
  ·exact this
 ·obtain⟨B,u,_⟩:=zA h;exact hc.fresh i B b u
 ·obtain⟨B,u,_⟩:=zA L;obtain⟨P,C,_⟩:=zA M;exact hc.inj i j B P b u C
 ·obtain⟨B,u,_⟩:=zA h;exact hc.apart i B b u
theorem Core.aM0{F F':w8}{d:List (Nat×j2)}{ρ:Nat->LV}{w w':aAf}{l:Nat}(hc:Core F d ρ w)(hl:F.S0 l)(hS:F'.S0=F.S0)(hz:w'.heap.size=w.heap.size)(ho:∀k,k≠l->w'.heap[k]? =w.heap[k]?)(N2:F'.w0.heap.size<=w'.heap.size)(J0:∀k,F.S0 k->k<F'.w0.heap.size)(oe:∀k,k<F'.w0.heap.size->¬F'.R k->w'.heap[k]? =F'.w0.heap[k]?)(hos:w'.os=F'.w0.os)(htp:w'.tape=F'.w0.tape)(V8:w'.output=F'.w0.output)(hR:∀i en b,aF d i=some en->mS (ρ i) b->F'.w0.heap.size<=b\/F'.R b):Core F' d ρ w'/\Ext (Un F.S0 ρ d) (Un F'.S0 ρ d) w w':=by
 have A:Ext (Un F.S0 ρ d) (Un F'.S0 ρ d) w w':=⟨by grind,λk _ B=>⟨ho k λe=>B (.inl (e ▸ hl)),by rw[hS];exact B⟩⟩;have C:∀i en b,aF d i=some en->mS (ρ i) b->b≠l:=λi en b h u e=>hc.apart i en b h u (e ▸ hl);exact⟨⟨by rw[hS];exact J0,N2,oe,hos,htp,V8,λi en h=>j2.j5 (hc.own i en h) A (λ_ _=>rfl) (λb u=>ho b (C i en b h u)),λi en b h u=>⟨hR i en b h u,by rw[hz];exact(hc.fresh i en b h u).2⟩,hc.inj,λi en b h u=>by rw[hS];exact hc.apart i en b h u⟩,A⟩
theorem Ye(ps:List (Tmp×aA4))(t:Array aA4):(ps.foldl (λtmps (t,a)=>tmps.setIfInBounds t a) t).size=t.size:=by
 induction ps generalizing t<;>grind
theorem BJ{ρ:Nat->LV}{S:Nat->Prop}{w:aAf}:∀(ps:List Tmp) (ss:List Slot) (us:List aA4) (g:List (Nat×Slot)) (tm:Array aA4),(∀t s,lk g t=some s->s.ok ρ S w (tm.getD t undef))->aG ρ S w ss us->ps.length=ss.length->(∀t∈ps,t<tm.size)->
  ∀t s,lk (JL ps ss g) t=some s->s.ok ρ S w (((ps.zip us).foldl (λtmps (t,a)=>tmps.setIfInBounds t a) tm).getD t undef)
 | [],[],us,g,tm,D,A,_,_=>by simp only[aG] at A;subst A;exact D
 |p::ps,K::ss,us,g,tm,D,A,B,E=>by
  simp only[aG] at A;obtain⟨u,us,rfl,I,F⟩:=A;simp only[JL,List.zip_cons_cons,xz];refine BJ ps ss us _ _ (λt s C=>?_) F (by simpa using B) (λt C=>by simpa using E t (kf _ C));have G:=E p kg;rw[kF] at C;rw[aDn,aG6];split at C<;>simp_all
 | [],_::_,_,_,_,_,_,B,_=>by simp at B
 |_::_,[],_,_,_,_,_,B,_=>by simp at B
theorem Je{F0 F:w8}{O:AS}{cs:List aBb}{Q:aBd->aBe->aAf->Prop}{gt:Tmp}{ps:Array Tmp}{assign body:aBb}{α ι δ:Type}{gf:aA6}{cap:List Slot}{step:ι->α->Option (Step α δ)}{its:List ι}{x0:α}{o:Ex α δ}(enc:ι->List Slot){g:List (Nat×Slot)}{ds0:List (Nat×j2)}(ds:(Nat->Nat)->α->List (Nat×j2))(dx:(Nat->Nat)->δ->List (Nat×j2))(σ1:(Nat->Nat)->ι->α->AS){L:List Nat}(hF:bp F0 F)(hrd:F.rd=none)(hm:me step its x0=some o)(h0:Sub F O ⟨g,ds0⟩)(yp:∀A,Ni A ds0=ds A x0)(hg:lk g gt=some (.G0 gf cap)){X:Nat->Prop}(hit:ItX F0 F gf cap (its.map enc) X)(B5:∀args w,(callFunc gf args).run F.P w= .ok (.enter gf args) w)(hps:∀it,(enc it).length=ps.size)(hpN:ps.toList.all (λt=>Nat.blt t F.N)=true)(hel:∀it,bX (enc it)=[])(hL:(g.flatMap λq=>q.2.E1)=L)(xt:∀A y,V5 A (ds A y) L)(hbz:∀A z,V5 A (dx A z) L)(aRl:∀A S w R l it y,W ⟨F.P,F.N,S,w,R,some l,[]⟩ [assign] ⟨JL ps.toList (enc it) g,ds A y⟩ (AQ ⟨F.P,F.N,S,w,R,some l,[]⟩ (σ1 A it y)))(bC7:∀A S w R l it y r,step it y=some r->W ⟨F.P,F.N,S,w,R,some l,[]⟩ [body] (σ1 A it y) (RB ⟨F.P,F.N,S,w,R,some l,[]⟩ (ds A) (dx A) r))(hk:∀A y,o= .u9 y->∀S w R df,bp F0 ⟨F.P,F.N,S,w,R,none,df⟩->W ⟨F.P,F.N,S,w,R,none,df⟩ cs ⟨g,ds A y⟩ Q)(hx:∀A z,o= .ret z->∀S w R df,bp F0 ⟨F.P,F.N,S,w,R,none,df⟩->XQ ⟨F.P,F.N,S,w,R,none,df⟩ ⟨g,dx A z⟩ Q .ret):W F (.rangeFunc (.tmp gt) ps assign body::cs) O Q:=by
 intro a w D9;obtain⟨⟨ρ0,G,af⟩,hz,G6⟩:=h0 a w D9;have yo:F.fe=Fence.wide:=by show ({ Fence.wide with round:=F.rd }:Fence)=_;rw[hrd];rfl
 let A:Nat->Nat:=λi=>O3 (ρ0 i).v
 obtain⟨G,ci⟩:=G.pin (A:=A) (λi b h=>by show O3 (ρ0 i).v=b;rw[h];rfl);replace af:∀t s,lk g t=some s->s.ok ρ0 (Un F.S0 ρ0 (ds A x0)) w (a.tmps.getD t undef):=by intro t s U;rw[<-yp,ci];exact af t s U
 rw[yp] at G;clear ci;have be:=af gt _ hg;simp only[Slot.ok] at be;obtain⟨vs,H9,M8⟩:=be;obtain⟨D,hD⟩:∃D,D=w.heap.size:=⟨_,rfl⟩;refine wpIn_rangeFunc λfn _=>?_;obtain⟨ab,K9⟩:∃ab:LoopState->Option aBb->Loop,ab=λst pe=>{ state:=st,pending:=pe,fn,tmps:=a.tmps,params:=ps,assign,body,defers:=D }:=⟨_,rfl⟩;obtain⟨W1,ap⟩:∃W1,(w.alloc (.deferred (some []))).alloc (.loop (ab .ready none))=W1:=⟨_,rfl⟩;have cz:Below w.heap.size w W1:=by rw[<-ap];exact((Below.refl _ w).alloc (gC _) _).alloc (by simp) _
 have yk:W1.heap.size=D+2:=by rw[<-ap,hD];simp
 have bg:W1.heap[D+1]? =some (.loop (ab .ready none)):=by
  rw[<-ap,hD];have:=World.alloc_heap_new (w.alloc (.deferred (some []))) (.loop (ab .ready none));rwa [World.size_alloc] at this
 have co:W1.heap[D]? =some (.deferred (some [])):=by
  rw[<-ap,hD];exact(Below.heap_alloc _ _ _ (by simp)).trans (World.alloc_heap_new w _)
 let S1:Nat->Prop:=λk=>F.S0 k\/k=D\/k=D+1
 let R1:Nat->Prop:=λk=>lF ρ0 (ds A x0) k\/X k
 have az:∀k,X k->k<D:=λk h=>by have:=G.low k (hit.s k h);have:=G.size;omega
 let FL:w8:=⟨F.P,F.N,S1,W1,R1,none,[]⟩
 let FX:w8:=⟨F.P,F.N,S1,W1,λk=>R1 k\/k=D+1,none,[]⟩
 have ai:∀k,S1 k->k<W1.heap.size:=by
  rintro k (h | rfl | rfl)
  ·have:=G.low k h;have:=G.size;omega
  ·omega
  ·omega
 have ak:Ext (Un F.S0 ρ0 (ds A x0)) (Un S1 ρ0 (ds A x0)) w W1:=⟨cz.size,λk hk K=>⟨cz.block k hk,by
  rintro ((h | rfl | rfl) | h)
  ·exact K (.inl h)
  ·omega
  ·omega
  ·exact K (.inr h)⟩⟩
 have bh:Core FL (ds A x0) ρ0 W1:=by
  refine⟨ai,gC _,λ_ _ _=>rfl,rfl,rfl,rfl,λi B h=>j2.j5 (G.own i B h) ak (λ_ _=>rfl) (λb I=>cz.block b (G.fresh i B b h I).2),λi B b h I=>⟨.inr (.inl ⟨i,B,h,I⟩),gn (G.fresh i B b h I).2 cz.size⟩,G.inj,λi B b h I=>?_⟩;rintro (h' | rfl | rfl)
  ·exact G.apart i B b h I h'
  ·have:=(G.fresh i B _ h I).2;omega
  ·have:=(G.fresh i B _ h I).2;omega
 have bi:∀{d:List (Nat×j2)} {ρ:Nat->LV} {W:aAf},Core FL d ρ W->W.heap[D+1]? =some (.loop (ab .ready none))/\W.heap[D]? =some (.deferred (some [])):=by
  intro d ρ W u;have bl:∀k,k=D\/k=D+1->¬R1 k:=by
   rintro k hk (⟨i,B,C,E⟩| h)
   ·have:=(G.fresh i B k C E).2;omega
   ·have:=az k h;omega
  exact⟨(u.frame (D+1) (by show D+1<W1.heap.size;omega) (bl _ (.inr rfl))).trans bg,(u.frame D (by show D<W1.heap.size;omega) (bl _ (.inl rfl))).trans co⟩
 have db:∀{d:List (Nat×j2)} {ρ:Nat->LV} {W:aAf} {V:w8},Core V d ρ W->V5 A d L->∀t s,lk g t=some s->lE ρ0 ρ s.E1:=by
  intro d ρ W V u I t s U i hi;have bn:i∈L:=by rw[<-hL];exact aHi.2 ⟨_,Jz U,hi⟩
  obtain⟨T,l,C⟩:=I.spec i bn;obtain⟨T',l',E⟩:=(xt A x0).spec i bn;rw[(u.own i _ C).2 _ rfl,(G.own i _ E).2 _ rfl]
 have bo:∀{d:List (Nat×j2)} {ρ:Nat->LV} {W:aAf},Core FL d ρ W->Ext (Un S1 ρ0 (ds A x0)) (Un S1 ρ d) W1 W:=by
  intro d ρ W u;have hR:∀k,¬Un S1 ρ0 (ds A x0) k->¬R1 k:=by
   rintro k K (h | h)
   ·exact K (.inr h)
   ·exact K (.inl (.inl (hit.s k h)))
  refine⟨u.size,λk hk K=>⟨u.frame k hk (hR k K),?_⟩⟩;rintro (h |⟨i,B,C,E⟩)
  ·exact K (.inl h)
  ·rcases (u.fresh i B k C E).1 with h | h
   ·have:W1.heap.size<=k:=h;omega
   ·exact hR k K h
 have cq:∀{d:List (Nat×j2)} {ρ:Nat->LV} {W:aAf},Core FX d ρ W->Ext (Un S1 ρ0 (ds A x0)) (Un S1 ρ d) W1 W:=by
  intro d ρ W u;have nu:∀k,¬Un S1 ρ0 (ds A x0) k->¬(R1 k\/k=D+1):=by
   rintro k K ((h | h) | rfl)
   ·exact K (.inr h)
   ·exact K (.inl (.inl (hit.s k h)))
   ·exact K (.inl (.inr (.inr rfl)))
  refine⟨u.size,λk hk K=>⟨u.frame k hk (nu k K),?_⟩⟩;rintro (h |⟨i,B,C,E⟩)
  ·exact K (.inl h)
  ·rcases (u.fresh i B k C E).1 with h | h
   ·have:W1.heap.size<=k:=h;omega
   ·exact nu k K h
 have br:∀{d:List (Nat×j2)} {ρ:Nat->LV} {W W':aAf} {V:w8},(V=FL\/V=FX)->Core V d ρ W->W'.heap.size=W.heap.size->(∀k,k≠D+1->W'.heap[k]? =W.heap[k]?)->W'.os=W.os->W'.tape=W.tape->W'.output=W.output->W.heap[D]? =some (.deferred (some []))->
   bp F0 ⟨F.P,F.N,S1,W',lF ρ d,none,{ target:= .collected D,args:= #[] }::F.df⟩/\Core ⟨F.P,F.N,S1,W',lF ρ d,none,{ target:= .collected D,args:= #[] }::F.df⟩ d ρ W'/\Ext (Un S1 ρ d) (Un S1 ρ d) W W':=by
  intro d ρ W W' V hFF u hzz wm hos htp V8 hKD;have al:V.S0=S1:=by rcases hFF with rfl | rfl<;>rfl
  have an:V.w0=W1:=by rcases hFF with rfl | rfl<;>rfl
  have bt:∀k,V.R k->R1 k\/k=D+1:=by rcases hFF with rfl | rfl;exact λk h=> .inl h;exact λk h=>h
  have mj:=u.size;rw[an] at mj;have oe:∀k,k<W1.heap.size->¬R1 k->k≠D+1->W.heap[k]? =W1.heap[k]? :=λk C E M=>by
   have:=u.frame k (by rw[an];exact C) (λh=>(bt k h).elim E M);rwa [an] at this
  have a0:∀k,F.S0 k\/k=D\/k=D+1->¬lF ρ d k:=by
   rintro k hk ⟨i,B,C,E⟩;have:=u.apart i B k C E;rw[al] at this;exact this hk
  have bu:∀k,lF ρ d k->k<W1.heap.size->R1 k:=by
   rintro k ⟨i,B,C,E⟩ hk;rcases (u.fresh i B k C E).1 with h | h
   ·rw[an] at h;omega
   ·rcases bt k h with h | rfl
    ·exact h
    ·exact absurd ⟨i,B,C,E⟩ (a0 _ (.inr (.inr rfl)))
  have bv:∀k,R1 k->F0.w0.heap.size<=k\/F0.R k:=by
   rintro k (⟨i,B,C,E⟩| h)
   ·rcases (G.fresh i B k C E).1 with h | h
    ·exact .inl (eo hF.size h)
    ·exact hF.fresh k h
   ·exact hit.f k h
  have a2:W'.os=F.w0.os/\W'.tape=F.w0.tape/\W'.output=F.w0.output:=by
   have C:=u.os;have E:=u.tape;have M:=u.output;rw[an] at C E M;exact⟨((hos.trans C).trans cz.os).trans G.os,((htp.trans E).trans cz.tape).trans G.tape,((V8.trans M).trans cz.output).trans G.output⟩
  have a4:=u.aM0 (F':=⟨F.P,F.N,S1,W',lF ρ d,none,{ target:= .collected D,args:= #[] }::F.df⟩) (l:=D+1) (by rw[al];exact .inr (.inr rfl)) al.symm hzz wm (gC _) (λk h=>by rw[al] at h;show k<W'.heap.size;have:=ai k h;omega)
   (λ_ _ _=>rfl) rfl rfl rfl (λi B b h I=> .inr ⟨i,B,h,I⟩)
  rw[al] at a4;refine⟨⟨hF.P,λk h=> .inl (hF.S k h),by show F0.w0.heap.size<=W'.heap.size;have:=hF.size;have:=G.size;omega,hF.low,λk hk hr=>?_,a2.1.trans hF.os,a2.2.1.trans hF.tape,a2.2.2.trans hF.output,λk hk=>?_,λx hx=>?_,?_⟩,a4.1,a4.2⟩
  ·have mg:=hF.size;have mf:=G.size;obtain⟨C,E⟩:=hF.frame k hk hr;have au:¬R1 k:=λh=>(bv k h).elim (λh=>by omega) hr;refine⟨?_,λh=>au (bu k h (by omega))⟩;show W'.heap[k]? =_;rw[wm k (by omega),oe k (by omega) au (by omega),cz.block k (by omega),G.frame k (by omega) E,C]
  ·by_cases B0:k<W1.heap.size
   ·exact bv k (bu k hk B0)
   ·have mg:=hF.size;have mf:=G.size;exact .inl (by omega)
  ·rcases sK.1 hx with rfl | hx
   ·have mg:=hF.size;have mf:=G.size;exact⟨D,rfl,.inr (.inl rfl),a0 D (.inr (.inl rfl)),by omega,by show W'.heap[D]? =_;rw[wm D (by omega)];exact hKD⟩
   ·obtain⟨r,C,E,M,h4,h5⟩:=hF.df x hx;have B0:=G.low r E;have mf:=G.size;refine⟨r,C,.inl E,a0 r (.inl E),h4,?_⟩;show W'.heap[r]? =_;have au:¬R1 r:=λh=>h.elim (λ⟨i,B,h6,h7⟩=>G.apart i B r h6 h7 E) λh=>(hit.c r h).2 _ h5;rw[wm r (by omega),oe r (by omega) au (by omega),cz.block r (by omega),G.frame r B0 M,h5]
  ·refine List.pairwise_cons.2 ⟨λx hx e=>?_,hF.nd⟩;obtain⟨r,C,E,_⟩:=hF.df x hx;rw[C] at e;have e':D=r:=(by simpa using e);have:=G.low r E;have:=G.size;omega
 let J:Nat->aAf->Prop:=λk W=>∃y ρ,me step (its.drop k) y=some o/\Core FL (ds A y) ρ W
 let Jx:aAf->Prop:=λW=>∃z ρ,o= .ret z/\Core FX (dx A z) ρ W/\W.heap[D+1]? =some (.loop (ab .done (some .ret)))/\W.heap[D]? =some (.deferred (some []))
 refine⟨D+1,[{ target:= .collected D,args:= #[] }],W1,{ target:= .fn (.func gf) vs.toArray,args:= #[.func (.yield (D+1)) #[] #[]] },W1,gf,(.func (.yield (D+1)) #[] #[]::vs).toArray,W1,?_,?_,λ_ _=>by rw[yo];trivial,?_,λh=>(by rw[yo] at h;cases h),?_⟩
 ·rw[<-ap,K9,hD];show (Instr.enterLoop _ _ _ _ _ F.rd).run _ _=_;rw[hrd];exact run_enterLoop_outer _ _ _ _ _
 ·have:a.eval (.tmp gt)= .func (.func gf) #[] vs.toArray:=H9;simp only[resolve,this];simp[go_sem]
 ·simp[invoke,go_sem,B5]
 rw[yo];refine CallsIn.mono (callsIn_wide.2 (hit.it (Un S1 ρ0 (ds A x0)) W1 vs ρ0 (D+1) J Jx ?_ (lX cap vs M8 ak (λ_ _=>rfl)) ⟨x0,ρ0,by simpa using hm,bh⟩ ?_ ?_ ?_ ?_ ?_)) ?_
 ·rintro k (h |⟨i,B,C,E⟩)
  ·exact ai k h
  ·exact(bh.fresh i B k C E).2
 ·rintro k W ⟨y,ρ,_,u⟩;exact⟨u.size,λb I K=>u.frame b I (λh=>K (h.elim .inr λh=> .inl (.inl (hit.s b h))))⟩
 ·rintro k W W' ⟨y,ρ,C,u⟩ ix;exact⟨y,ρ,C,(u.below ix).1⟩
 ·rintro W W' ⟨z,ρ,ae,u,fa,ay⟩ ix;exact⟨z,ρ,ae,(u.below ix).1,(ix.block _ (aDl.1 fa).1).trans fa,(ix.block _ (aDl.1 ay).1).trans ay⟩
 ·
  rintro k item W0 W us qs ⟨y,ρ,aj,cj⟩ ix ck;have u:=(cj.below ix).1
  have ct:Ext (λj=>Un S1 ρ0 (ds A x0) j\/(W1.heap.size<=j/\j<W0.heap.size)) (Un S1 ρ (ds A y)) W W:=⟨gC _,λk _ K=>⟨rfl,by
   rintro (h |⟨i,B,C,E⟩)
   ·exact K (.inl (.inl h))
   ·obtain⟨M,h4⟩:=cj.fresh i B k C E;rcases M with M | M
    ·exact K (.inr ⟨M,h4⟩)
    ·exact M.elim (λh=>K (.inl (.inr h))) (λh=>K (.inl (.inl (.inl (hit.s k h)))))⟩⟩
  obtain⟨it,dc,rfl⟩:∃it,its[k]? =some it/\enc it=item:=by
   rw[ze] at qs;cases hq:its[k]? with
   |none=>rw[hq] at qs;cases qs
   |some it=>rw[hq] at qs;exact⟨it,rfl,by simpa using qs⟩
  have qt:its.drop k=it::its.drop (k+1):=by
   obtain⟨B0,he⟩:=aEi.1 dc;rw[aGe B0,he]
  rw[qt] at aj;obtain⟨hl,ba⟩:=bi u;have cu:=Ds ck;have hy:=run_yield (P:=F.P) (args:=us.toArray) hl (by rw[K9];simp[cu,hps]);rw[K9] at hy;refine⟨fn,_,assign,body,hy,roundIn_of_wpIn trivial ?_⟩;let F2:w8:=⟨F.P,F.N,S1,W,lF ρ (ds A y),some (D+1),[]⟩
  have cw:=u.size;have dk:W1.heap.size<=W.heap.size:=cw;have L0:Core F2 (ds A y) ρ W:=⟨λk h=>by have:=ai k h;show k<W.heap.size;omega,gC _,λ_ _ _=>rfl,rfl,rfl,rfl,u.own,λi B b h I=>⟨.inr ⟨i,B,h,I⟩,(u.fresh i B b h I).2⟩,u.inj,u.apart⟩;have D3:lE ρ0 ρ (bX (enc it)):=λi hi=>by rw[hel it] at hi;simp at hi
  have cx:St F2 ⟨JL ps.toList (enc it) g,ds A y⟩ { tmps:=((ps.zip us.toArray).foldl (λtmps (t,a)=>tmps.setIfInBounds t a) a.tmps),defers:=[] } W:=by
   refine⟨⟨ρ,L0,λt s U=>?_⟩,?_,rfl⟩
   ·have cy:(ps.zip us.toArray).foldl (λtmps (t,a)=>tmps.setIfInBounds t a) a.tmps=(ps.toList.zip us).foldl (λtmps (t,a)=>tmps.setIfInBounds t a) a.tmps:=by
     rw[<-Array.foldl_toList];simp
    rw[cy];refine BJ ps.toList (enc it) us g a.tmps (λt s U=>?_) (lX _ us ck ct D3) (by simpa using (hps it).symm) (λt U=>?_) t s U
    ·exact Slot.j5 s _ (Slot.j5 s _ (af t s U) ak (λ_ _=>rfl)) (bo u) (λi hi=>db u (xt A y) t s U i hi)
    ·rw[hz];have:=nE.1 hpN t U;exact gQ this
   ·show ((ps.zip us.toArray).foldl (λtmps (t,a)=>tmps.setIfInBounds t a) a.tmps).size=F.N;rw[<-Array.foldl_toList];rw[Ye];exact hz
  have c0:assign.wpIn F2.fe 0 F.P (Exit.then (run F2.fe F.P (AQ F2 (σ1 A it y)) []) (AQ F2 (σ1 A it y))) _ W:=aRl A S1 W (lF ρ (ds A y)) (D+1) it y _ _ cx;refine wpIn_mono (show assign.wpIn (Fence.wide.inRound (D+1)) 0 F.P _ _ W from c0) ?_;have fin:∀{e:aBd} {a1:aBe} {w1:aAf},St F2 (σ1 A it y) a1 w1->∃w2,(Instr.beginRound (D+1)).run F.P w1= .ok () w2/\body.wpIn (Fence.wide.inRound (D+1)) 0 F.P (roundPost F.P (D+1) λe W'=>(e= .returned (.bool true)/\J (k+1) W'/\∀b,X b->W'.heap[b]? =W.heap[b]?)\/(e= .returned (.bool false)/\Jx W')) a1 w2:=by
   intro _ a1 w1 c9;obtain⟨⟨ρ1,L7,mg⟩,dd,de⟩:=c9;have a5:∀k,S1 k->¬lF ρ (ds A y) k:=(by rintro k hk ⟨i,B,C,E⟩;exact u.apart i B k C E hk);have nv:w1.heap[D+1]? =some (.loop (ab .ready none)):=(L7.frame (D+1) (by show D+1<W.heap.size;have:W1.heap.size<=W.heap.size:=u.size;omega) (a5 _ (.inr (.inr rfl)))).trans hl;have c2:w1.heap[D]? =some (.deferred (some [])):=(L7.frame D (by show D<W.heap.size;have:W1.heap.size<=W.heap.size:=u.size;omega) (a5 _ (.inr (.inl rfl)))).trans ba;have c3:=(aDl.1 nv).1;have bx:=run_beginRound (P:=F.P) nv (by rw[K9]);obtain⟨w2,aq⟩:∃w2,w1.putObj (D+1) (.loop { ab .ready none with state:= .busy })=w2:=⟨_,rfl⟩;rw[aq] at bx;have ed:w2.heap.size=w1.heap.size:=(by rw[<-aq];simp);have av:∀k,k≠D+1->w2.heap[k]? =w1.heap[k]? :=λk h=>by rw[<-aq];exact World.putObj_heap_other h
   have fa:w2.heap[D+1]? =some (.loop { ab .ready none with state:= .busy }):=(by rw[<-aq];exact World.putObj_heap_same c3);let F3:w8:=⟨F.P,F.N,S1,w2,lF ρ1 (σ1 A it y).d,some (D+1),[]⟩
   have du:W.heap.size<=w1.heap.size:=L7.size;have dv:W1.heap.size<=W.heap.size:=u.size;obtain⟨sf,dg⟩:=L7.aM0 (F':=F3) (l:=D+1) (.inr (.inr rfl)) rfl ed av (gC _) (λk h=>by have:=ai k h;show k<w2.heap.size;omega) (λ_ _ _=>rfl) rfl rfl rfl (λi B b h I=> .inr ⟨i,B,h,I⟩);refine⟨w2,bx,?_⟩;have bz:∀{d:List (Nat×j2)} {ρ3:Nat->LV} {w3 w4:aAf} {o4:Obj},Core F3 d ρ3 w3->w4=w3.putObj (D+1) o4->(o4= .loop (ab .ready none)->Core FL d ρ3 w4)/\Core FX d ρ3 w4/\w3.heap[D+1]? =some (.loop { ab .ready none with state:= .busy })/\w4.heap[D+1]? =some o4/\w4.heap[D]? =some (.deferred (some [])):=by
    intro d ρ3 w3 w4 o4 hcc hw4;have b1:∀k,S1 k->¬lF ρ1 (σ1 A it y).d k:=(by rintro k hk ⟨i,B,C,E⟩;exact L7.apart i B k C E hk);have dw:w2.heap.size<=w3.heap.size:=hcc.size;have b2:w3.heap[D+1]? =some (.loop { ab .ready none with state:= .busy }):=(hcc.frame (D+1) (by show D+1<w2.heap.size;omega) (b1 _ (.inr (.inr rfl)))).trans fa;have c4:w3.heap[D]? =some (.deferred (some [])):=(hcc.frame D (by show D<w2.heap.size;omega) (b1 _ (.inr (.inl rfl)))).trans ((av D (by omega)).trans c2);have b3:w4.heap.size=w3.heap.size:=(by rw[hw4];simp);have aw:∀k,k≠D+1->w4.heap[k]? =w3.heap[k]? :=λk h=>by rw[hw4];exact World.putObj_heap_other h
    have b4:w4.heap[D+1]? =some o4:=(by rw[hw4];exact World.putObj_heap_same (aDl.1 b2).1);have b5:∀k,k<W1.heap.size->lF ρ1 (σ1 A it y).d k->R1 k:=by
     rintro k hk ⟨i,B,C,E⟩;rcases (L7.fresh i B k C E).1 with h |⟨i',di,M,h4⟩
     ·have:W.heap.size<=k:=h;omega
     ·rcases (u.fresh i' di k M h4).1 with h | h
      ·have:W1.heap.size<=k:=h;omega
      ·exact h
    have b6:∀k,k<W1.heap.size->¬R1 k->k≠D+1->w4.heap[k]? =W1.heap[k]? :=by
     intro k hk ad G4;rw[aw k G4,hcc.frame k (by show k<w2.heap.size;omega) (λh=>ad (b5 k hk h))];show w2.heap[k]? =_;rw[av k G4,L7.frame k (by show k<W.heap.size;omega) (λh=>?_)]
     ·exact u.frame k hk ad
     ·obtain⟨i,B,C,E⟩:=h;rcases (u.fresh i B k C E).1 with h | h
      ·have:W1.heap.size<=k:=h;omega
      ·exact ad h
    have a6:w4.os=w3.os/\w4.tape=w3.tape/\w4.output=w3.output:=(by rw[hw4];exact⟨rfl,rfl,rfl⟩);have a7:w2.os=w1.os/\w2.tape=w1.tape/\w2.output=w1.output:=(by rw[<-aq];exact⟨rfl,rfl,rfl⟩);have b7:w4.os=W1.os:=a6.1.trans (hcc.os.trans (a7.1.trans (L7.os.trans u.os)));have b8:w4.tape=W1.tape:=a6.2.1.trans (hcc.tape.trans (a7.2.1.trans (L7.tape.trans u.tape)));have b9:w4.output=W1.output:=a6.2.2.trans (hcc.output.trans (a7.2.2.trans (L7.output.trans u.output)));have ca:∀i B b,aF d i=some B->mS (ρ3 i) b->W1.heap.size<=b\/R1 b:=by
     intro i B b h I;by_cases B0:b<W1.heap.size
     ·rcases (hcc.fresh i B b h I).1 with h' | h'
      ·have:w2.heap.size<=b:=h';omega
      ·exact .inr (b5 b B0 h')
     ·exact .inl (by omega)
    have J0:∀k,S1 k->k<W1.heap.size:=ai;refine⟨λda=>?_,?_,b2,b4,by rw[aw D (by omega)];exact c4⟩
    ·exact(hcc.aM0 (F':=FL) (l:=D+1) (.inr (.inr rfl)) rfl b3 aw (by show W1.heap.size<=w4.heap.size;omega) J0 (λk hk ad=>by
      by_cases cb:k=D+1
      ·subst cb;exact(b4.trans (by rw[da])).trans bg.symm
      ·exact b6 k hk ad cb) b7 b8 b9 ca).1
    ·exact(hcc.aM0 (F':=FX) (l:=D+1) (.inr (.inr rfl)) rfl b3 aw (by show W1.heap.size<=w4.heap.size;omega) J0 (λk hk ad=>b6 k hk (λh=>ad (.inl h)) (λh=>ad (.inr h))) b7 b8 b9 (λi B b h I=>(ca i B b h I).imp (λh=>h) .inl)).1
   have c5:St F3 (σ1 A it y) a1 w2:=⟨⟨ρ1,sf,λt s U=>Slot.j5 s _ (mg t s U) dg (λ_ _=>rfl)⟩,dd,de⟩;cases hsr:step it y with
   |none=>simp only[me,hsr] at aj;cases aj
   |some r=>
    have c6:body.wpIn F3.fe 0 F.P (Exit.then (run F3.fe F.P (RB F3 (ds A) (dx A) r) []) (RB F3 (ds A) (dx A) r)) a1 w2:=bC7 A S1 w2 _ (D+1) it y r hsr _ _ c5;refine wpIn_mono (show body.wpIn (Fence.wide.inRound (D+1)) 0 F.P _ a1 w2 from c6) ?_;intro e a3 w3 hq;simp only[me,hsr] at aj;cases r with
    |next y'=>
     cases e<;>simp only[RB,Exit.then,run] at hq;obtain⟨⟨ρ3,ax,_⟩,_⟩:=hq;obtain⟨C,E,M,h4,h5⟩:=bz (o4:= .loop (ab .ready none)) ax rfl;have Z7:=run_endRound (P:=F.P) none M;refine⟨_,_,Z7,.inl ⟨rfl,⟨y',ρ3,?_,?_⟩,λb hX=>?_⟩⟩
     ·exact aj
     ·rw[K9] at C ⊢;exact C rfl
     ·have c7:=az b hX;have ao:S1 b:= .inl (hit.s b hX);rw[World.putObj_heap_other (by omega),ax.frame b (by show b<w2.heap.size;omega) (λ⟨i,B,q1,q2⟩=>L7.apart i B b q1 q2 ao)];show w2.heap[b]? =_;rw[av b (by omega),L7.frame b (by show b<W.heap.size;omega) (a5 b ao)]
    |done z=>
     have ae:o= .ret z:=(by simpa using aj.symm);cases e<;>simp only[RB,Exit.then,run] at hq;obtain⟨⟨ρ3,ax,_⟩,_⟩:=hq;obtain⟨_,E,M,h4,h5⟩:=bz (o4:= .loop (ab .done (some .ret))) ax rfl;have Z7:=run_endRound (P:=F.P) (some .ret) M;refine⟨_,_,Z7,.inr ⟨rfl,z,ρ3,ae,?_,?_,?_⟩⟩
     ·rw[K9] at E ⊢;exact E
     ·rw[K9] at h4 ⊢;exact h4
     ·rw[K9] at h5 ⊢;exact h5
  intro e a1 w1 hq;cases e<;>simp only[AQ,Exit.then,run] at hq ⊢<;>first | exact fin (e:= .normal) hq | exact hq
 ·
  intro b hX;have c7:=az b hX;have ao:S1 b:= .inl (hit.s b hX);have ch:∀{V:w8} {d:List (Nat×j2)} {ρ:Nat->LV} {W W':aAf},V.S0=S1->V.w0=W1->V.R b->Core V d ρ W->ff b W W'->Core V d ρ W':=by
   intro V d ρ W W' C E M u hu;have mj:=u.size;refine(u.aM0 (F':=V) (l:=b) (by rw[C];exact ao) rfl hu.size hu.other (by rw[hu.size];exact mj) u.low (λk hk hr=>?_) (hu.os.trans u.os) (hu.tape.trans u.tape) (hu.output.trans u.output) λi B c h I=>(u.fresh i B c h I).1).1;rw[hu.other k (λe=>hr (e ▸ M))];exact u.frame k hk hr
  refine⟨.inl ao,?_,?_,?_⟩
  ·rw[cz.block b (by omega)];exact G.frame b (G.low b (hit.s b hX)) (hit.c b hX).1
  ·rintro k W W' ⟨y,ρ,C,u⟩ hu;exact⟨y,ρ,C,ch rfl rfl (.inr hX) u hu⟩
  ·rintro W W' ⟨z,ρ,ae,u,fa,ay⟩ hu;exact⟨z,ρ,ae,ch rfl rfl (.inl (.inr hX)) u hu,by rw[hu.other _ (by omega)];exact fa,by rw[hu.other _ (by omega)];exact ay⟩
 ·
  rintro e W2 ⟨⟨v,rfl⟩,⟨y,ρ,C,u⟩|⟨z,ρ,ae,u,fa,dj⟩⟩
  ·obtain⟨hl,ba⟩:=bi u;have c8:o= .u9 y:=by
    have E:its.drop (List.map enc its).length=[]:=(by simp);rw[E] at C;simpa[me] using C.symm
   refine⟨none,_,(by have:=run_endLoop (P:=F.P) hl (by rw[K9];simp);rw[K9] at this;exact this),?_⟩;obtain⟨W3,ac⟩:∃W3,W2.putObj (D+1) (.loop { ab .ready none with state:= .exhausted })=W3:=⟨_,rfl⟩;have iv:∀k,k≠D+1->W3.heap[k]? =W2.heap[k]? :=λk h=>by rw[<-ac];exact World.putObj_heap_other h
   obtain⟨bb,bc,bd⟩:=br (W':=W3) (.inl rfl) u (by rw[<-ac];simp) iv (by rw[<-ac];rfl) (by rw[<-ac];rfl) (by rw[<-ac];rfl) ba;have a8:=hk A y c8 S1 W3 (lF ρ (ds A y)) _ bb { a with defers:=[{ target:= .collected D,args:= #[] }]++a.defers } W3 ⟨⟨ρ,bc,λt s U=>?_⟩,hz,by show _++a.defers=_;rw[G6];rfl⟩
   ·have a9:W2.putObj (D+1) (.loop { state:= .exhausted,pending:=none,fn,tmps:=a.tmps,params:=ps,assign,body,defers:=D })=W3:=(by rw[<-ac,K9]);rw[a9];simp only[Exit.then];exact a8
   ·exact Slot.j5 s _ (Slot.j5 s _ (Slot.j5 s _ (af t s U) ak (λ_ _=>rfl)) (bo u) (λi hi=>db u (xt A y) t s U i hi)) bd (λ_ _=>rfl)
  ·refine⟨some .ret,_,(by have:=run_endLoop (P:=F.P) fa (by rw[K9];simp);rw[K9] at this;exact this),?_⟩;obtain⟨W3,ac⟩:∃W3,W2.putObj (D+1) (.loop { ab .done (some .ret) with state:= .exhausted })=W3:=⟨_,rfl⟩;have iv:∀k,k≠D+1->W3.heap[k]? =W2.heap[k]? :=λk h=>by rw[<-ac];exact World.putObj_heap_other h
   obtain⟨bb,bc,bd⟩:=br (W':=W3) (.inr rfl) u (by rw[<-ac];simp) iv (by rw[<-ac];rfl) (by rw[<-ac];rfl) (by rw[<-ac];rfl) dj;have a8:=hx A z ae S1 W3 (lF ρ (dx A z)) _ bb { a with defers:=[{ target:= .collected D,args:= #[] }]++a.defers } W3 ⟨⟨ρ,bc,λt s U=>?_⟩,hz,by show _++a.defers=_;rw[G6];rfl⟩
   ·have a9:W2.putObj (D+1) (.loop { state:= .exhausted,pending:=some .ret,fn,tmps:=a.tmps,params:=ps,assign,body,defers:=D })=W3:=(by rw[<-ac,K9]);show (Code.ret).wpIn _ _ _ _ _ _;rw[a9];exact wpIn_ret a8
   ·exact Slot.j5 s _ (Slot.j5 s _ (Slot.j5 s _ (af t s U) ak (λ_ _=>rfl)) (cq u) (λi hi=>db u (hbz A z) t s U i hi)) bd (λ_ _=>rfl)
def rg{ι α δ γ:Type}(step:ι->α->Option (Step α δ))(its:List ι)(x:α)(k:α->Option γ)(kx:δ->Option γ):Option γ:=match me step its x with | none=>none | some (.u9 y)=>k y | some (.ret z)=>kx z
theorem Jf{ι α δ γ:Type}{step:ι->α->Option (Step α δ)}{its:List ι}{x:α}{k:α->Option γ}{kx:δ->Option γ}{r:γ}(h:rg step its x k kx=some r):∃o,me step its x=some o/\(∀y,o= .u9 y->k y=some r)/\(∀z,o= .ret z->kx z=some r):=by
 grind [rg]
theorem QX{F:w8}{O σ1:AS}(h:Sub F O σ1):W F [] O (AQ F σ1):=λa w u=>h a w u
theorem Jg{α δ:Type}{F:w8}{O:AS}{ds:α->List (Nat×j2)}{dx:δ->List (Nat×j2)}{y:α}(h:Sub F O ⟨[],ds y⟩):W F [] O (RB F ds dx (.next y)):=λa w u=>h a w u
theorem JN{α δ:Type}{F:w8}{O:AS}{ds:α->List (Nat×j2)}{dx:δ->List (Nat×j2)}{z:δ}(h:Sub F O ⟨[],dx z⟩):XQ F O (RB F ds dx (.done z)) .ret:=λa w u=>h a w u
def small{α:Type}(xs:List α):Option Unit:=if (xs.length:Int)<=4294967296 then some () else none
theorem Cw{α:Type}{xs:List α}{u:Unit}(h:small xs=some u):(xs.length:Int)<=4294967296:=by
 grind [small]
def aLq(n:Int):Option Unit:=if 1<=n/\n<=4294967296 then some () else none
theorem Bt{n:Int}{u:Unit}(h:aLq n=some u):1<=n/\n<=4294967296:=by
 grind [aLq]
def Fu.H2(u:aA4)(h:u.oneCell'=true):Fu Unit where
 n:=1
 agg:=false
 ok _ _ _ cs:=cs=[u]
 len h:=by rw[h];rfl
 one _:=rfl
 cell hc c hm:=by rw[hc] at hm;simp at hm;subst hm;exact h
 mono h _:=h
instance (u:aA4) (h:u.oneCell'=true):F7 (Fu.H2 u h):=⟨λh=>h⟩
theorem zB{u:aA4}{hu:u.oneCell'=true}{S w v}:(Fu.H2 u hu).val () S w v↔v=u:=
 ⟨λ⟨_,A,B⟩=>by have:=A;subst this;exact B,λh=>⟨_,rfl,h⟩⟩
def Fu.cp{α:Type}(b off:Nat)(e:Fu α):Fu α where
 n:=1
 agg:=false
 ok x S w cs:=cs=[.pointer (some ⟨b,off,none⟩)]/\∃u,b<w.heap.size/\¬S b/\r8 w b off u/\e.ok x S w u
 len h:=by rw[h.1];rfl
 one _:=rfl
 cell hc c hm:=by rw[hc.1] at hm;simp at hm;subst hm;rfl
 mono h k:=by
  obtain⟨C,u,A,B,D,E⟩:=h;exact⟨C,u,gn A k.size,(k.eh b A B).2,D.mono A B k,e.mono E k⟩
theorem Kq{α:Type}{b off:Nat}{e:Fu α}{x:α}{S w v}:(Fu.cp b off e).val x S w v↔v= .pointer (some ⟨b,off,none⟩)/\∃ds,b<w.heap.size/\¬S b/\r8 w b off ds/\e.ok x S w ds:=
 ⟨λ⟨_,u,A⟩=>by obtain⟨rfl,B⟩:=u;exact⟨A,B⟩,λh=>⟨_,⟨rfl,h.2⟩,h.1⟩⟩
section
variable {d:Option Tmp}{x y z:aAp}
theorem cW{u:aA4}(h:u.oneCell'=true):JO F ⟨d,.assign (.const u),ty,p,af,gd⟩ O (.v (Fu.H2 u h) ()) []:=by
 intro ρ S a w K;exact j6.value (rfl) (y9.same (zB.2 rfl))
theorem lD{α:Type}{b off:Nat}{e:Fu α}{v:α}{U:aAg}(hx:aV O.g x=some (.v (Fu.cp b off e) v))(hA:∀w,(isAgg U).run F.P w= .ok e.agg w)(hS:∀w,(sizeOf U).run F.P w= .ok e.n w):JO F ⟨d,.load U x,ty,p,af,gd⟩ O (.v e v) []:=by
 intro ρ S a w K;have h:=K.slot x (by simp[Op.operands]) _ hx;obtain⟨C,A,D,E,B,u⟩:=Kq.1 h;refine j6.value ?_ (y9.same (⟨A,u,rfl⟩));have:=Cu B u hA hS
 simp_all [execOp,Instr.loadAt,Instr.sureAddr]
end
def SW(S:Nat->Prop)(B:Nat)(W:aAf)(j:Nat):Prop:=S j\/(B<=j/\j<W.heap.size)
abbrev FW(P:aA5)(N:Nat)(S:Nat->Prop)(B:Nat)(W:aAf):w8:=⟨P,N,SW S B W,W,λ_=>False,none,[]⟩
structure Its (P:aA5) (S:Nat->Prop) (w:aAf) (ρ:Nat->LV) (l:Nat) (J:Nat->aAf->Prop) (Jx:aAf->Prop) (items:List (List Slot)):Prop where
 low:∀k,S k->k<w.heap.size
 eh:∀k W,J k W->w.heap.size<=W.heap.size/\∀b,b<w.heap.size->¬S b->W.heap[b]? =w.heap[b]?
 below:∀k W W',J k W->Below W.heap.size W W'->J k W'
 aWw:∀W W',Jx W->Below W.heap.size W W'->Jx W'
 aT0:∀k item W0 W us,items[k]? =some item->J k W0->Below W0.heap.size W0 W->aG ρ (SW S w.heap.size W0) W item us->∃fn tmps assign body,(Instr.yield l us.toArray).run P W= .ok (.round l fn tmps assign body) W/\
   RoundIn Fence.wide 0 P l fn tmps assign body W λe W'=>(e= .returned (.bool true)/\J (k+1) W')\/(e= .returned (.bool false)/\Jx W')
def P7(ρ:Nat->LV)(S:Nat->Prop)(w:aAf)(s:Slot):Prop:=s.E1=[]/\∀S1 W1 S2 W2 u,s.ok ρ S1 W1 u->Ext S S2 w W2->s.ok ρ S2 W2 u
theorem P7.flat{α:Type}{e:Fu α}[F7 e]{x:α}{ρ S w}:P7 ρ S w (.v e x):=⟨rfl,λ_ _ _ _ u h _=>by
 obtain⟨cs,A,B⟩:=h
 exact⟨cs,F7.flat A,B⟩⟩
theorem P7.cp{α:Type}{e:Fu α}{x:α}{b off:Nat}{ρ S w}(h:(Slot.v (Fu.cp b off e) x).ok ρ S w (.pointer (some ⟨b,off,none⟩))):P7 ρ S w (.v (Fu.cp b off e) x):=⟨rfl,λ_ _ _ _ u A k=>by
 obtain⟨rfl,_⟩:=Kq.1 A
 exact fN h k⟩
inductive T5 (ρ:Nat->LV) (S:Nat->Prop) (w:aAf):List (Nat×Slot)->Prop
 |nil:T5 ρ S w []
 |cons {t:Nat} {s:Slot} {g:List (Nat×Slot)}:P7 ρ S w s->T5 ρ S w g->T5 ρ S w ((t,s)::g)
theorem T5.spec{ρ S w}{g:List (Nat×Slot)}(h:T5 ρ S w g):∀t s,lk g t=some s->P7 ρ S w s:=by
 induction h<;>grind [lk,kF]
inductive uf (g:List (Nat×Slot)):List (Nat×Slot)->Prop
 |nil:uf g []
 |cons {t:Nat} {s:Slot} {g':List (Nat×Slot)}:lk g t=some s->uf g g'->uf g ((t,s)::g')
theorem uf.spec{g g':List (Nat×Slot)}(h:uf g g'):∀t s,lk g' t=some s->lk g t=some s:=by
 induction h<;>grind [lk,kF]
theorem Oh{F:w8}{O:AS}{g':List (Nat×Slot)}(h:uf O.g g'):Sub F O ⟨g',O.d⟩:=λa w ⟨⟨ρ,u,A⟩,B,hd⟩=>⟨⟨ρ,u,λt s C=>A t s (h.spec t s C)⟩,B,hd⟩
theorem jP{F:w8}{O:AS}{g':List (Nat×Slot)}(hd:O.d=[])(h:uf O.g g'):Sub F O ⟨g',[]⟩:=by grind [Oh]
section
variable {P:aA5}{N:Nat}{S:Nat->Prop}{w:aAf}{ρ:Nat->LV}{l:Nat}{J:Nat->aAf->Prop}{Jx:aAf->Prop}{items:List (List Slot)}
theorem Its.ext(I:Its P S w ρ l J Jx items){k:Nat}{W:aAf}(h:J k W):Ext S (SW S w.heap.size W) w W:=by
 obtain⟨B,C⟩:=I.eh k W h;exact⟨B,λb u A=>⟨C b u A,by rintro (h | h)<;>grind⟩⟩
theorem Core.none{F:w8}{ρ:Nat->LV}(hl:∀k,F.S0 k->k<F.w0.heap.size):Core F [] ρ F.w0:=
 ⟨hl,gC _,λ_ _ _=>rfl,rfl,rfl,rfl,λi u h=>by grind [aF],λi u b h=>by simp[aF] at h,λi j u A b h=>by simp[aF] at h,λi u b h=>by grind [aF]⟩
theorem Un.none{S:Nat->Prop}{ρ:Nat->LV}:Un S ρ []=S:=by
 funext k;refine propext ⟨λh=>?_,.inl⟩;rcases h with h |⟨i,u,h,_⟩<;>grind [aF]
theorem Core.re{F:w8}(hR:∀k,¬F.R k){d:List (Nat×j2)}{ρ:Nat->LV}{W:aAf}(hc:Core F d ρ W):Below F.w0.heap.size F.w0 W:=⟨hc.os,hc.tape,hc.output,hc.size,λk u=>hc.frame k u (hR k)⟩
theorem Its.start(I:Its P S w ρ l J Jx items){k:Nat}{W:aAf}(hJ:J k W){g:List (Nat×Slot)}(hg:T5 ρ S w g){ρ1:Nat->LV}{S1:Nat->Prop}{W1:aAf}{a:aBe}(hs:∀t s,lk g t=some s->s.ok ρ1 S1 W1 (a.tmps.getD t undef))(hz:a.tmps.size=N)(hd:a.defers=[]):St (FW P N S w.heap.size W) ⟨g,[]⟩ a W:=by
 refine⟨⟨ρ,Core.none (λk h=>?_),λt s u=>?_⟩,hz,hd⟩
 ·show k<W.heap.size;rcases h with h | h
  ·have:=I.low k h;have:=(I.eh _ W hJ).1;omega
  ·exact h.2
 ·obtain⟨C,A⟩:=hg.spec t s u;rw[Un.none];refine A S1 W1 _ W _ (Slot.j5 s _ (hs t s u) (Ext.refl _ _) (λi B=>?_)) (I.ext hJ)
  grind
def IQ(N:Nat)(J:Nat->aAf->Prop)(m:Nat)(gs:Nat->List (Nat×Slot))(Q:aBd->aBe->aAf->Prop)(k:Nat):aBd->aBe->aAf->Prop | .normal,a,W'=>k<m/\J (k+1) W'/\∃F',F'.N=N/\F'.df=[]/\St F' ⟨gs (k+1),[]⟩ a W' | e,a,W'=>Q e a W'
theorem Ra{c:aBb}{cs:List aBb}{Q:aBd->aBe->aAf->Prop}(I:Its P S w ρ l J Jx items){W0:aAf}{O:AS}(gs:Nat->List (Nat×Slot))(hg:∀k,T5 ρ S w (gs k))(h0:Sub (FW P N S w.heap.size W0) O ⟨gs 0,[]⟩)(hJ0:J 0 W0)(h:∀k V,J k V->k<=items.length->Sw.W (FW P N S w.heap.size V) [c] ⟨gs k,[]⟩ (IQ N J items.length gs Q k)):Sw.W (FW P N S w.heap.size W0) (.loop c::cs) O Q:=by
 intro a wc D9;obtain⟨⟨ρ1,L7,mg⟩,yk,ac⟩:=h0 a wc D9;have F:J 0 wc:=I.below 0 W0 wc hJ0 (L7.re (λ_ h=>h));have X:=I.start (N:=N) F (hg 0) mg yk ac;let u:aBe->aAf->Nat->Prop:=λa V m=>∃k,k+m=items.length/\J k V/\St (FW P N S w.heap.size V) ⟨gs k,[]⟩ a V
 have G:∀a V,(∃m,u a V m)->∃m,u a V m/\∀k,u a V k->m<=k:=by
  rintro a V ⟨m,hm⟩
  induction m using Nat.strongRecOn with
  |_ m ih=>
   by_cases K:∃k,k<m/\u a V k
   ·obtain⟨k,T,E⟩:=K;exact ih k T E
   ·exact⟨m,hm,λk B=>Nat.le_of_not_lt λB0=>K ⟨k,B0,B⟩⟩
 classical
 let μ:aBe->aAf->Nat:=λa V=>if A:∃m,u a V m then Classical.choose (G a V A) else 0
 have L:∀a V (A:∃m,u a V m),u a V (μ a V)/\∀k,u a V k->μ a V<=k:=by
  intro a V A;have:=aHz (G a V A);simp only[μ,dif_pos A];exact this
 refine wpIn_loop (Q:=Exit.then (run Fence.wide P Q cs) Q) (λa V=>∃m,u a V m) μ ⟨items.length,0,by simp,F,X⟩ λa V A=>?_;obtain⟨⟨k,T,E,h3⟩,ai⟩:=L a V A;have B:=h k V E (by omega) a V h3;refine wpIn_mono (show c.wpIn Fence.wide 0 P _ a V from B) ?_;intro e M R D;cases e<;>simp only[Exit.then,run,IQ] at D ⊢<;>try exact D
 obtain⟨q1,U,F',q3,q4,⟨ρ2,L0,mf⟩,q5,q6⟩:=D;have ab:=I.start (N:=N) U (hg (k+1)) mf (by rw[q5,q3]) (by rw[q6,q4]);have C:u M R (items.length - (k+1)):=⟨k+1,by omega,U,ab⟩;refine⟨⟨_,C⟩,?_⟩;have:=(L M R ⟨_,C⟩).2 _ C;omega
theorem Kr{cs:List aBb}{Q:aBd->aBe->aAf->Prop}(I:Its P S w ρ l J Jx items){V:aAf}{k id d d':Nat}{item:List Slot}{pre:List aBa}{yt:Tmp}{xs:List aAp}{ts:Array aAg}{ty ty':aAg}{p p':String}{af af':Array Edge}{T:aAg}{O σ1:AS}{g2:List (Nat×Slot)}(hJ:J k V)(qs:items[k]? =some item)(A6:Sw.J (FW P N S w.heap.size V) (pre++[(⟨some d,.call ⟨.value (.tmp yt),xs.toArray,ts⟩,ty,p,af,none⟩:aBa),⟨some d',.unOp .not T (.tmp d),ty',p',af',none⟩]).toArray pre O σ1)(hy:lk σ1.g yt=some (.v (Fu.H2 (.func (.yield l) #[] #[]) rfl) ()))(ha:W7 σ1 false xs item)(hil:bX item=[])(hd1:σ1.d=[])(hd:Nat.blt d N=true)(hd':Nat.blt d' N=true)(db:T5 ρ S w g2)(hg2:uf σ1.g g2)(ht:∀V',J (k+1) V'->Sw.W (FW P N S w.heap.size V') cs ⟨(d',.v Fu.bool false)::(d,.v Fu.bool true)::g2,[]⟩ Q)(hf:∀V',Jx V'->Sw.W ⟨P,N,λ_=>False,V',λ_=>False,none,[]⟩ cs ⟨[(d',.v Fu.bool true)],[]⟩ Q):Sw.W (FW P N S w.heap.size V) (.region id (pre++[(⟨some d,.call ⟨.value (.tmp yt),xs.toArray,ts⟩,ty,p,af,none⟩:aBa),⟨some d',.unOp .not T (.tmp d),ty',p',af',none⟩]).toArray false::cs) O Q:=by
 intro a wc D9;refine wpIn_region_lit ?_;refine A6 _ _ a wc D9 λu w1 aj=>?_;obtain⟨⟨ρ1,L7,R⟩,yk,ac⟩:=aj;have ix:Below V.heap.size V w1:=L7.re (λ_ h=>h);have M:=R yt _ hy;simp only[Slot.ok] at M;have M:=zB.1 M;have K:=aY L7 R (Op.call ⟨.value (.tmp yt),xs.toArray,ts⟩).operands;have ab:=ha.spec (ys:=(Op.call ⟨.value (.tmp yt),xs.toArray,ts⟩).operands) (λx hx=>by simp[Op.operands,Call.operands,hx]) K;rw[hd1,Un.none] at ab;have ai:aG ρ (SW S w.heap.size V) w1 item (xs.map u.eval):=lX _ _ ab (by simp only[mu,M5];exact Ext.refl _ _) (λi D=>by rw[hil] at D;simp at D);obtain⟨fn,ad,ae,body,h1,L⟩:=I.aT0 k item V w1 _ qs hJ ix ai;have Y5:(execOp u.eval ⟨some d,.call ⟨.value (.tmp yt),xs.toArray,ts⟩,ty,p,af,none⟩).run P w1= .ok (.round l fn ad ae body) w1:=by
  have e1:u.eval (.tmp yt)= .func (.yield l) #[] #[]:=M;have e2:(xs.toArray.map u.eval)=(xs.map u.eval).toArray:=by simp
  simp only[execOp,resolve,e1];simp[go_sem,e2,h1]
 refine yS (F:=FW P N S w.heap.size V) (K:=λv w'=>(v= .bool true/\J (k+1) w')\/(v= .bool false/\Jx w')) (yD (g:=σ1.g) (GK.none rfl) (λt x _ hx=>R t _ hx)) (.inr (.inr (.inr ⟨l,fn,ad,ae,body,w1,Y5,L.mono ?_⟩))) ?_
 ·rintro e w' (⟨rfl,B⟩|⟨rfl,B⟩)
  ·exact⟨_,rfl,.inl ⟨rfl,B⟩⟩
  ·exact⟨_,rfl,.inr ⟨rfl,B⟩⟩
 have B0:d<u.tmps.size:=by rw[yk];exact gQ hd
 rintro v w' (⟨rfl,B⟩|⟨rfl,B⟩)
 ·have U:St (FW P N S w.heap.size w') ⟨(d,.v Fu.bool true)::g2,[]⟩ (u.put (some d) (.bool true)) w':=by
   refine⟨⟨ρ,Core.none (F:=FW P N S w.heap.size w') (λq h=>?_),λt s A=>?_⟩,by rw[kC,yk],ac⟩
   ·show q<w'.heap.size;rcases h with h | h
    ·have:=I.low q h;have:=(I.eh _ w' B).1;omega
    ·exact h.2
   ·rw[kF] at A;rw[kD u d _ t B0];split at A
    ·rename_i C;cases A;rw[sM C];exact iA true _ _ _
    ·rename_i C;rw[nS C,Un.none];obtain⟨k1,k2⟩:=db.spec t s A;refine k2 _ w1 _ w' _ (Slot.j5 s _ (R t s (hg2.spec t s A)) (Ext.refl _ _) (λi D=>?_)) (I.ext B);rw[k1] at D;simp at D
  have X:Sw.J (FW P N S w.heap.size w') (pre++[(⟨some d,.call ⟨.value (.tmp yt),xs.toArray,ts⟩,ty,p,af,none⟩:aBa),⟨some d',.unOp .not T (.tmp d),ty',p',af',none⟩]).toArray [(⟨some d',.unOp .not T (.tmp d),ty',p',af',none⟩:aBa)] ⟨(d,.v Fu.bool true)::g2,[]⟩ ⟨(d',.v Fu.bool false)::(d,.v Fu.bool true)::g2,[]⟩:=
   Sw.J.cons (GK.none rfl) (Qp (b:=true) (by simp[aV,lk])) rfl hd' Sw.J.nil
  have:=X (Exit.then (run Fence.wide P Q cs) Q) [] _ w' U (λE G L=>wpListIn_nil (show run Fence.wide P Q cs E G from ht w' B E G L));exact this
 ·have U:St ⟨P,N,λ_=>False,w',λ_=>False,none,[]⟩ ⟨[(d,.v Fu.bool false)],[]⟩ (u.put (some d) (.bool false)) w':=by
   refine⟨⟨ρ,Core.none (F:=⟨P,N,λ_=>False,w',λ_=>False,none,[]⟩) (λq h=>h.elim),λt s A=>?_⟩,by rw[kC,yk],ac⟩;rw[kF] at A;rw[kD u d _ t B0];split at A
   ·rename_i C;cases A;rw[sM C];exact iA false _ _ _
   ·simp[lk] at A
  have X:Sw.J ⟨P,N,λ_=>False,w',λ_=>False,none,[]⟩ (pre++[(⟨some d,.call ⟨.value (.tmp yt),xs.toArray,ts⟩,ty,p,af,none⟩:aBa),⟨some d',.unOp .not T (.tmp d),ty',p',af',none⟩]).toArray [(⟨some d',.unOp .not T (.tmp d),ty',p',af',none⟩:aBa)] ⟨[(d,.v Fu.bool false)],[]⟩ ⟨[(d',.v Fu.bool true)],[]⟩:=
   Sw.J.cons (GK.none rfl) (Qp (b:=false) (by simp[aV,lk])) rfl hd' (Sw.J.fin (Oh (.cons (by simp[lk,AS.put]) .nil)))
  have:=X (Exit.then (run Fence.wide P Q cs) Q) [] _ w' U (λE G L=>wpListIn_nil (show run Fence.wide P Q cs E G from hf w' B E G L));exact this
def rq(P:aA5)(fn:Func)(J:Nat->aAf->Prop)(Jx:aAf->Prop)(m:Nat):aBd->aBe->aAf->Prop:=bodyPost P fn λe u=>(∃v,e= .returned v)/\(J m u\/Jx u)
theorem rq.of{fn:Func}{m:Nat}(N3:fn.results= #[]){e:aBd}(he:e= .normal\/e= .ret){a:aBe}{V:aAf}(hd:a.defers=[])(h:J m V\/Jx V):rq P fn J Jx m e a V:=by
 have A:a.defers=[]/\∃v,(results fn a.tmps).run P V= .ok v V/\((∃u,Ending.returned v= .returned u)/\(J m V\/Jx V)):=⟨hd,_,Ts N3,⟨_,rfl⟩,h⟩;rcases he with rfl | rfl<;>exact A
theorem Rb{gs:Nat->List (Nat×Slot)}{Q:aBd->aBe->aAf->Prop}(I:Its P S w ρ l J Jx items){k:Nat}{V:aAf}{O:AS}(hJ:J (k+1) V)(hk:k<items.length)(h:Sub (FW P N S w.heap.size V) O ⟨gs (k+1),[]⟩):Sw.W (FW P N S w.heap.size V) [] O (IQ N J items.length gs Q k):=by
 intro a A B;have u:=h a A B;obtain⟨ρ1,C,_⟩:=u.core;exact⟨hk,I.below _ V A hJ (C.re (λ_ h=>h)),_,rfl,rfl,u⟩
theorem Yf{fn:Func}{gs:Nat->List (Nat×Slot)}{k:Nat}{id:Nat}{Q':aBd->aBe->aAf->Prop}(I:Its P S w ρ l J Jx items)(N3:fn.results= #[]){V:aAf}{O:AS}(hJ:J k V)(hk:k=items.length)(hQ:∀a V',rq P fn J Jx items.length .normal a V'->Q' (.exit id) a V'):XQ (FW P N S w.heap.size V) O (IQ N J items.length gs Q' k) (.exit id):=by
 intro a u A;obtain⟨ρ1,B,_⟩:=A.core;exact hQ a u (rq.of N3 (.inl rfl) A.defers (.inl (hk ▸ I.below _ V u hJ (B.re (λ_ h=>h)))))
theorem Rc{fn:Func}{Q':aBd->aBe->aAf->Prop}(I:Its P S w ρ l J Jx items)(N3:fn.results= #[]){V:aAf}{O:AS}(hJ:Jx V)(hQ:∀a V',rq P fn J Jx items.length .ret a V'->Q' .ret a V'):XQ ⟨P,N,λ_=>False,V,λ_=>False,none,[]⟩ O Q' .ret:=by
 intro a u A;obtain⟨ρ1,B,_⟩:=A.core;exact hQ a u (rq.of N3 (.inr rfl) A.defers (.inr (I.aWw V u hJ (B.re (λ_ h=>h)))))
end
theorem Oi{P:aA5}{f:aA6}{fn:Func}{c:aBb}{N:Nat}{cap:List Slot}{items:List (List Slot)}{X:Type}(hf:P.funcs[f]? =some fn)(hb:fn.body=some c)(hN:fn.ntmps=N)(hle:Nat.ble (cap.length+1) N=true)(us:X->List aA4)(gx:X->List (Nat×Slot))(aN1:∀(ρ:Nat->LV) (S:Nat->Prop) (w:aAf) (vs:List aA4),aG ρ S w cap vs->∃x,vs=us x/\T5 ρ S w (gx x)/\∀t s,lk (gx x) t=some s->∃j u,t=j+1/\vs[j]? =some u/\s.ok ρ S w u)(h:∀S w ρ l J Jx x,Its P S w ρ l J Jx items->J 0 w->T5 ρ S w (gx x)->W (FW P N S w.heap.size w) [c] ⟨(0,.v (Fu.H2 (.func (.yield l) #[] #[]) rfl) ())::gx x,[]⟩ (rq P fn J Jx items.length)):mw P f cap items:=by
 intro S w vs ρ l J Jx J0 hv hJ0 aS5 aWc aTc hY;have I:Its P S w ρ l J Jx items:=⟨J0,aS5,aWc,aTc,hY⟩;obtain⟨x,R,D,M⟩:=aN1 ρ S w vs hv;refine calls_of_wp hf hb ?_;have O:=Ds hv;have hle:=gQ hle;have E:St (FW P N S w.heap.size w) ⟨(0,.v (Fu.H2 (.func (.yield l) #[] #[]) rfl) ())::gx x,[]⟩ { tmps:=(.func (.yield l) #[] #[]::vs).toArray++Array.replicate (fn.ntmps - (Value.func (.yield l) #[] #[]::vs).toArray.size) undef,defers:=[] } w:=by
  have F:T5 ρ S w ((0,.v (Fu.H2 (.func (.yield l) #[] #[]) rfl) ())::gx x):= .cons (@P7.flat _ (Fu.H2 (.func (.yield l) #[] #[]) rfl) ⟨λh=>h⟩ _ _ _ _) D;refine I.start (N:=N) hJ0 F (ρ1:=ρ) (S1:=S) (W1:=w) (λt s B=>?_) ?_ rfl
  ·rw[kF] at B;split at B
   ·rename_i K;subst K;cases B;simp only[Slot.ok];refine zB.2 ?_;simp[aDn,Array.getElem?_append]
   ·obtain⟨j,u,rfl,A,C⟩:=M t s B;have G:j<vs.length:=by
     rcases jl j vs.length with h | h
     ·exact h
     ·simp[zy h] at A
    have:((Value.func (.yield l) #[] #[]::vs).toArray++Array.replicate (fn.ntmps - (Value.func (.yield l) #[] #[]::vs).toArray.size) undef).getD (j+1) undef=u:=by
     rw[aDn,aHc (by simpa using G)];simp[A]
    rw[this];exact C
  ·simp only[aIb,aF8,aHp,qf];omega
 have A:=h S w ρ l J Jx x I hJ0 D _ w E;have C:c.wpIn Fence.wide 0 P (Exit.then (run Fence.wide P (rq P fn J Jx items.length) []) (rq P fn J Jx items.length)) _ w:=A;refine wpIn_wide.1 (wpIn_mono C ?_);intro e a Q L;cases e<;>exact L
theorem EV{P:aA5}{f:aA6}{fn:Func}{c:aBb}{N:Nat}{α:Type}{e:Fu α}{z:α}{items:List (List Slot)}(hf:P.funcs[f]? =some fn)(hb:fn.body=some c)(hN:fn.ntmps=N)(hle:Nat.ble 2 N=true)(h:∀S w ρ l J Jx b off,Its P S w ρ l J Jx items->J 0 w->P7 ρ S w (.v (Fu.cp b off e) z)->W (FW P N S w.heap.size w) [c] ⟨[(0,.v (Fu.H2 (.func (.yield l) #[] #[]) rfl) ()),(1,.v (Fu.cp b off e) z)],[]⟩ (rq P fn J Jx items.length)):mw P f [.B8 e z] items:=by
 refine Oi (X:=Nat×Nat) hf hb hN hle (λx=>[.pointer (some ⟨x.1,x.2,none⟩)]) (λx=>[(1,.v (Fu.cp x.1 x.2 e) z)]) (λρ S w vs C=>?_) (λS w ρ l J Jx x I E F=>h S w ρ l J Jx x.1 x.2 I E (F.spec 1 _ rfl));simp only[aG,Slot.ok] at C;obtain⟨u,Q,rfl,⟨b,off,G,rfl,K,L,M,O⟩,rfl⟩:=C;have B:(Slot.v (Fu.cp b off e) z).ok ρ S w (.pointer (some ⟨b,off,none⟩)):=by simp only[Slot.ok];exact Kq.2 ⟨rfl,G,K,L,M,O⟩
 refine⟨(b,off),rfl,.cons (.cp B) .nil,λt s A=>?_⟩;rw[kF] at A;split at A
 ·rename_i D;cases A;exact⟨0,_,D.symm,rfl,B⟩
 ·simp[lk] at A
theorem Oj{P:aA5}{f:aA6}{fn:Func}{c:aBb}{N:Nat}{α β:Type}{e:Fu α}{z:α}{e':Fu β}{z':β}{items:List (List Slot)}(hf:P.funcs[f]? =some fn)(hb:fn.body=some c)(hN:fn.ntmps=N)(hle:Nat.ble 3 N=true)(h:∀S w ρ l J Jx b off b' U0,Its P S w ρ l J Jx items->J 0 w->P7 ρ S w (.v (Fu.cp b off e) z)->P7 ρ S w (.v (Fu.cp b' U0 e') z')->W (FW P N S w.heap.size w) [c] ⟨[(0,.v (Fu.H2 (.func (.yield l) #[] #[]) rfl) ()),(1,.v (Fu.cp b off e) z),(2,.v (Fu.cp b' U0 e') z')],[]⟩ (rq P fn J Jx items.length)):mw P f [.B8 e z,.B8 e' z'] items:=by
 refine Oi (X:=(Nat×Nat)×(Nat×Nat)) hf hb hN hle (λx=>[.pointer (some ⟨x.1.1,x.1.2,none⟩),.pointer (some ⟨x.2.1,x.2.2,none⟩)]) (λx=>[(1,.v (Fu.cp x.1.1 x.1.2 e) z),(2,.v (Fu.cp x.2.1 x.2.2 e') z')]) (λρ S w vs E=>?_)
  (λS w ρ l J Jx x I G F=>h S w ρ l J Jx x.1.1 x.1.2 x.2.1 x.2.2 I G (F.spec 1 _ rfl) (F.spec 2 _ rfl))
 simp only[aG,Slot.ok] at E;obtain⟨u,jr,rfl,⟨b,off,K,rfl,L,M,O,Q⟩,u',ac,rfl,⟨b',U0,R,rfl,T,U,V,ab⟩,rfl⟩:=E;have C:(Slot.v (Fu.cp b off e) z).ok ρ S w (.pointer (some ⟨b,off,none⟩)):=by simp only[Slot.ok];exact Kq.2 ⟨rfl,K,L,M,O,Q⟩
 have D:(Slot.v (Fu.cp b' U0 e') z').ok ρ S w (.pointer (some ⟨b',U0,none⟩)):=by simp only[Slot.ok];exact Kq.2 ⟨rfl,R,T,U,V,ab⟩
 refine⟨((b,off),(b',U0)),rfl,.cons (.cp C) (.cons (.cp D) .nil),λt s A=>?_⟩;rw[kF] at A;split at A
 ·rename_i B;cases A;exact⟨0,_,B.symm,rfl,C⟩
 ·rw[kF] at A;split at A
  ·rename_i B;cases A;exact⟨1,_,B.symm,rfl,D⟩
  ·simp[lk] at A
def chunks{α:Type}(n:Nat)(xs:List α):List (List α):=(List.range ((xs.length+n - 1) / n)).map λk=>(xs.drop (k*n)).take n
theorem N9{α:Type}{n:Nat}(hn:1<=n)(xs:List α){k:Nat}:k<(chunks n xs).length↔k*n<xs.length:=by
 grind [chunks,List.length_map,List.length_range,Nat.lt_div_iff_mul_lt]
theorem gi{α:Type}{n:Nat}(hn:1<=n){xs:List α}{k:Nat}(h:k*n<xs.length):(chunks n xs)[k]? =some ((xs.drop (k*n)).take n):=by
 grind [N9,chunks,List.length_map,List.length_range]
theorem Hs{α:Type}{xs:List α}{n:Int}(hn:1<=n)(hn2:n<=4294967296)(hlen:(xs.length:Int)<=4294967296){k:Nat}(h:(k:Int)*n<xs.length):k*n.toNat<xs.length/\sub xs (k*n) xs.length=some (xs.drop (k*n.toNat))/\sub xs (k*n) (ar .add .i64 (k*n) (min n ((xs.drop (k*n.toNat)).length:Int)))=some ((xs.drop (k*n.toNat)).take n.toNat)/\(ar .add .i64 (k*n) (min n ((xs.drop (k*n.toNat)).length:Int))<=ar .add .i64 (k*n) (min n ((xs.drop (k*n.toNat)).length:Int))/\ar .add .i64 (k*n) (min n ((xs.drop (k*n.toNat)).length:Int))<=xs.length)/\ar .add .i64 (k*n) n=((k+1:Nat):Int)*n:=by
 obtain⟨m,rfl⟩:∃m:Nat,n=m:=⟨n.toNat,by omega⟩;have u:(0:Int)<=(k:Int)*m:=Int.mul_nonneg (by omega) (by omega);have A:((k:Int)*m)=((k*m:Nat):Int):=by push_cast;rfl
 have D:k*m<xs.length:=by rw[A] at h;exact_mod_cast h
 have B:(xs.drop (k*m)).length=xs.length - k*m:=mr ..;have C:∀x:Int,0<=x->x<=4294967296->ar .add .i64 (k*m) x=k*m+x:=by
  intro x M N;unfold ar;refine uV ?_;unfold zY;have E:IntKind.min .i64= -9223372036854775808:=by decide
  have F:IntKind.max .i64=9223372036854775807:=by decide
  rw[E,F];omega
 simp only[gR];have G:(0:Int)<=min (m:Int) ((xs.drop (k*m)).length:Int):=by omega
 have I:min (m:Int) ((xs.drop (k*m)).length:Int)<=4294967296:=by omega
 rw[C _ G I,C _ (by omega) hn2];refine⟨D,?_,?_,⟨aG4 _,by rw[B];omega⟩,by push_cast;rw[Int.add_mul,Int.one_mul]⟩
 ·unfold sub;rw[sM ⟨u,by omega,aG4 _⟩,A,gR,gR,aG1]
 ·unfold sub;rw[sM ⟨u,by omega,by rw[B];omega⟩];have K:((k:Int)*m).toNat=k*m:=by omega
  have L:((k:Int)*m+min (m:Int) ((xs.drop (k*m)).length:Int)).toNat=k*m+min m (xs.drop (k*m)).length:=by omega
  rw[K,L,aH9];congr 1;rw[Nat.add_sub_cancel_left,<-List.take_take,aG1]
def dn{α:Type}(xs:List α):List (Int×α):=(xs.zipIdx.map λx=>((x.2:Int),x.1)).reverse
section
variable {d:Option Tmp}{x y z:aAp}
theorem wE{T:aAg}{zv:aA4}{cs:List aA4}{l:List Slot}{new:List (Nat×j2)}(i:Nat)(hz:∀w,(zeroValue T).run F.P w= .ok zv w)(hc:zv.cells=cs.toArray)(hl:ZrN cs l new)(hn:uh new)(hf:O.free new=true)(N4:(bX l).all (λj=> !Nat.beq j i)=true):JO F ⟨d,.alloc T,ty,p,af,gd⟩ O (.ptr i 0) ((i,.box T l)::new):=by
 intro ρ S a w K;obtain⟨ρ',h1,R,K',h3,h4⟩:=BI hn hf K;refine j6.value (w':=w.alloc (.cells cs.toArray T)) (v:= .pointer (some ⟨w.heap.size,0,none⟩)) (by simp[execOp,Instr.alloc,hz,yV,hc]) ?_;obtain⟨ρ2,k1,k2,k3,U⟩:=y9.box (ρ:=ρ') (S:=S) (w:=w) (T:=T) i (hl ρ' S w R) N4;have M:∀j,j≠i->ρ2 j=ρ' j:=λj u=>k1 j (by rw[bA,nS (jj u)];rfl);have E:∀j B,j≠i->aF new j=some B->ρ2 j= .of (.slice none 0 0):=λj B u h=>by rw[M j u,R j B h]
 have N:Un S ρ2 ((i,.box T l)::new)=Un S ρ2 [(i,.box T l)]:=by
  funext k;refine propext ⟨λh=>?_,λh=>?_⟩
  ·rcases h with h |⟨j,B,D,G⟩
   ·exact .inl h
   ·by_cases u:j=i
    ·subst u;exact .inr ⟨j,.box T l,by simp[aF],G⟩
    ·rw[bA,nS (jj u)] at D;rw[E j B u D] at G;simp[nN,E2] at G
  ·rcases h with h |⟨j,B,D,G⟩
   ·exact .inl h
   ·rw[bA] at D;split at D
    ·rename_i u;subst u;exact .inr ⟨i,.box T l,by simp[aF],G⟩
    ·simp[aF] at D
 refine⟨ρ2,λj u=>?_,k2,?_,?_,?_,?_⟩
 ·rw[bA] at u;split at u
  ·cases u
  ·rename_i A;rw[M j (jj A)];exact h1 j u
 ·rw[N];exact k3
 ·intro j B u;rw[N];rw[bA] at u;split at u
  ·rename_i A;subst A;cases u;exact U.own _ _ (by rw[bA,sM rfl])
  ·rename_i A;rw[E j B (jj A) u];exact hn.spec j B u _ _ _
 ·intro j B b u C;rw[bA] at u;split at u
  ·rename_i A;subst A;cases u;exact U.fresh _ _ b (by rw[bA,sM rfl]) C
  ·rename_i A;rw[E j B (jj A) u] at C;simp[nN,E2] at C
 ·intro j V B X b u I C Q;rw[bA] at u I;split at u
  ·rename_i A;subst A;split at I
   ·rename_i L;exact L
   ·rename_i L;rw[E V X (jj L) I] at Q;simp[nN,E2] at Q
  ·rename_i A;rw[E j B (jj A) u] at C;simp[nN,E2] at C
def Lns{α β:Type}(e:Fu α)(z:α)(off:Nat)(e':Fu β)(z':β)(u:β->α):Prop:=∀S w cs,e.ok z S w cs->∃a c d,cs=a++(c++d)/\a.length=off/\e'.ok z' S w c/\∀z2 c2,e'.ok z2 S w c2->e.ok (u z2) S w (a++(c2++d))
theorem Lns.here{α:Type}{e:Fu α}{z:α}:Lns e z 0 e z (λy=>y):=λS w cs h=>⟨[],cs,[],by simp,rfl,h,λu A B=>by grind⟩
theorem Lns.snd{α β γ:Type}{a:Fu α}{b:Fu β}{e':Fu γ}{z:α×β}{z':γ}{off:Nat}{u:γ->β}(h:Lns b z.2 off e' z' u):Lns (Fu.pr a b) z (a.n+off) e' z' (λy=>(z.1,u y)):=by
 rintro S w cs ⟨c,d,rfl,D,M⟩;obtain⟨B,G,C,rfl,I,K,L⟩:=h S w d M;exact⟨c++B,G,C,by simp,by rw[cM,a.len D,I],K,λE A F=>⟨c,B++(A++C),by simp,D,L E A F⟩⟩
theorem Tu{α β:Type}{e:Fu α}{zs:List α}{z:α}{e':Fu β}{z' z2:β}{u:β->α}{T U:aAg}{i k off:Nat}(hz:zs[k]? =some z)(hx:aV O.g x=some (.el i k e.n off))(he:aF O.d i=some (.arr T e zs))(hy:aV O.g y=some (.v e' z2))(hp:Lns e z off e' z' u)(hS:∀w,(sizeOf U).run F.P w= .ok e'.n w):JM F ⟨none,.store U x y,ty,p,af,gd⟩ O ⟨O.g,(i,.arr T e (zs.set k (u z2)))::O.d⟩:=by
 refine lC he rfl λρ a w hc M=>?_;have K:=aY hc M (Op.store U x y).operands;obtain⟨b,ab,A,cs,B,N,h2,L,h4,h5,h6,h7⟩:=XJ K (x:=x) (by simp[Op.operands]) hx he;have I:=pV (s:= .v e' z2) rfl (Hp M hy);simp only[Slot.I2] at I;obtain⟨C,c,D,rfl,hl,lj,M6⟩:=nL h4 hz;obtain⟨E,Q,G,rfl,fa,R,ac⟩:=hp _ w c lj;have S:A++(C++(E++(Q++G)++D)++B)=(A++C++E)++(Q++(G++D++B)):=by simp
 rw[S] at L;have V:=jF (P:=F.P) (w:=w) (U:=U) (off:=A.length+(k*e.n+off)) hS (by have:=e'.len I;simp only[rk] at this;omega) (λq hq=>e'.cell I q hq) L (by simp[hl,fa,Nat.add_assoc]) (e'.len R);have X:(A++C++E)++((a.eval y).cells.toList++(G++D++B))=A++((C++((E++((a.eval y).cells.toList++G))++D))++B):=by simp
 refine⟨b,w.setRow b ((A++C++E)++((a.eval y).cells.toList++(G++D++B))).toArray,.inl (by rw[N];rfl),ff.setRow w b _,?_,λhE=>?_⟩
 ·exact iC h2 V
 ·refine .inr ⟨b,ab,A,C++((E++((a.eval y).cells.toList++G))++D),B,by simpa using N,?_,Fu.q8 (M6 (u z2) _ (ac z2 _ I)) hE,by simpa using h5,?_,by simpa using h7⟩
  ·rw[<-X];exact setRow_heap w b _ _ T _ L
  ·have:=e'.len I;have:=e'.len R;simp only[cM] at h6 ⊢;omega
theorem Bu{α:Type}{x:Option α}{r:α}(h:x=some r):(x.bind λv=>some v)=some r:=by grind
end
theorem EW{α:Type}(xs:List α):(dn xs).length=xs.length:=by simp[dn]
theorem JP{α:Type}{xs:List α}{k:Nat}(h:k<xs.length):∃x,(dn xs)[k]? =some ((xs.length:Int) - 1 - (k:Nat),x)/\Sw.idx xs ((xs.length:Int) - 1 - (k:Nat))=some x:=by
 have u:xs.length - 1 - k<xs.length:=by omega
 refine⟨xs[xs.length - 1 - k],?_,?_⟩
 ·unfold dn;rw[List.getElem?_reverse (by simpa using h)];simp only[sv,List.length_zipIdx,ze,List.getElem?_zipIdx,sE u,aEp,aGu];congr 2;omega
 ·unfold Sw.idx;have e:((xs.length:Int) - 1 - (k:Nat)).toNat=xs.length - 1 - k:=by omega
  rw[sM (by omega),e,sE u]
theorem JR{n k:Nat}(h:(n:Int)<=4294967296)(hk:k<=n):ar .sub .i64 ((n:Int) - 1 - (k:Nat)) 1=(n:Int) - 1 - ((k+1:Nat):Int):=by
 have e:(n:Int) - 1 - (k:Nat) - 1=(n:Int) - 1 - ((k+1:Nat):Int):=by push_cast;omega
 show IntKind.wrap .i64 _=_;rw[e];refine uV ?_;unfold zY;have u:IntKind.min .i64= -9223372036854775808:=by decide
 have A:IntKind.max .i64=9223372036854775807:=by decide
 rw[u,A];omega
theorem EX{n:Nat}(h:(n:Int)<=4294967296):ar .sub .i64 (n:Int) 1=(n:Int) - 1 - ((0:Nat):Int):=by
 have e:(n:Int) - 1=(n:Int) - 1 - ((0:Nat):Int):=by simp
 show IntKind.wrap .i64 ((n:Int) - 1)=_;refine(uV ?_).trans e;unfold zY;have u:IntKind.min .i64= -9223372036854775808:=by decide
 have A:IntKind.max .i64=9223372036854775807:=by decide
 rw[u,A];omega
section
variable {x y:aAp}{d:Option Tmp}
end
theorem QY{F:w8}{O:AS}{o:aBa}{l:List Slot}{new:List (Nat×j2)}{α:Type}{e:Fu α}{z:α}(h:JO F o O (.agg l) new)(hs:X7 l e z)(ha:e.agg=true):JO F o O (.v e z) new:=by
 intro ρ S a w K;refine(h ρ S a w K).mono ?_;rintro v G ⟨ρ',C,D,u,E⟩;refine⟨ρ',C,D,?_,E⟩;simp only[Slot.ok] at u ⊢;obtain⟨cs,A,B⟩:=u;exact⟨cs,(hs _ _ _ cs).1 B,by rw[A];simp[Fu.pk,ha]⟩
theorem JS{P:aA5}{fn:Func}{a:aBe}{w:aAf}{r0 r1 r2 r3:ResultVar}{v0 v1 v2 v3:aA4}(N3:fn.results= #[r0,r1,r2,r3])(h0:(sP a r0).run P w= .ok v0 w)(h1:(sP a r1).run P w= .ok v1 w)(h2:(sP a r2).run P w= .ok v2 w)(h3:(sP a r3).run P w= .ok v3 w):(results fn a.tmps).run P w= .ok (.tuple #[v0,v1,v2,v3]) w:=by
 simp_all [uC]
theorem JT{P:aA5}{fn:Func}{a:aBe}{w:aAf}{r0 r1 r2 r3 r4:ResultVar}{v0 v1 v2 v3 v4:aA4}(N3:fn.results= #[r0,r1,r2,r3,r4])(h0:(sP a r0).run P w= .ok v0 w)(h1:(sP a r1).run P w= .ok v1 w)(h2:(sP a r2).run P w= .ok v2 w)(h3:(sP a r3).run P w= .ok v3 w)(h4:(sP a r4).run P w= .ok v4 w):(results fn a.tmps).run P w= .ok (.tuple #[v0,v1,v2,v3,v4]) w:=by
 simp_all [uC]
section
variable {fn:Func}{r0 r1 r2 r3 r4:ResultVar}{s1 s2 s3 s4:Slot}
theorem QZ(hF:bp F F')(hR:∀k,¬F.R k)(N3:fn.results= #[r0,r1,r2,r3])(h0:RV F O r0 s0)(h1:RV F O r1 s1)(h2:RV F O r2 s2)(h3:RV F O r3 s3)(hn:K5 new O.d)(D6:gH (.q9 [s0,s1,s2,s3]) new=true):XQ F' O (Ad F fn (.q9 [s0,s1,s2,s3]) new) .ret:=
 vP hF λρ a w u A=>by
  obtain⟨B,C,b0⟩:=h0 ρ a w u A;obtain⟨D,E,M⟩:=h1 ρ a w u A;obtain⟨G,I,N⟩:=h2 ρ a w u A;obtain⟨K,L,P⟩:=h3 ρ a w u A;refine⟨_,JS N3 C E I L,_,rfl,y9.O2 hR u ?_ hn D6⟩;simp only[Slot.ok];exact⟨[B,D,G,K],rfl,by simp only[aG];grind⟩
theorem RA(hF:bp F F')(hR:∀k,¬F.R k)(N3:fn.results= #[r0,r1,r2,r3,r4])(h0:RV F O r0 s0)(h1:RV F O r1 s1)(h2:RV F O r2 s2)(h3:RV F O r3 s3)(h4:RV F O r4 s4)(hn:K5 new O.d)(D6:gH (.q9 [s0,s1,s2,s3,s4]) new=true):XQ F' O (Ad F fn (.q9 [s0,s1,s2,s3,s4]) new) .ret:=
 vP hF λρ a w u A=>by
  obtain⟨B,C,b0⟩:=h0 ρ a w u A;obtain⟨D,E,P⟩:=h1 ρ a w u A;obtain⟨G,I,Q⟩:=h2 ρ a w u A;obtain⟨K,L,S⟩:=h3 ρ a w u A;obtain⟨M,N,T⟩:=h4 ρ a w u A;refine⟨_,JT N3 C E I L N,_,rfl,y9.O2 hR u ?_ hn D6⟩;simp only[Slot.ok];exact⟨[B,D,G,K,M],rfl,by simp only[aG];grind⟩
end
def Bv(g:List (Nat×Slot))(o:aBa):List Nat:=o.op.operands.toList.flatMap λx=>match aV g x with | some s=>s.E1 | none=>[]
structure Loc (ops:Array aBa) (o:aBa) (σ0 O:AS):Prop where
 g:∀u∈Ny ops o,lk O.g u=lk σ0.g u
 d:∀l∈Bv σ0.g o,aF O.d l=aF σ0.d l
section
variable {o:aBa}{σ0:AS}
theorem Loc.ev(h:Loc ops o σ0 O){x:aAp}(hx:x∈o.op.operands):aV O.g x=aV σ0.g x:=by
 cases x with
 |tmp u=>exact h.g u (by simp[Ny,oq,aHi];exact .inl ⟨_,by simpa using hx,by simp[rd]⟩)
 |const u=>rfl
 |global g=>rfl
 |func f=>rfl
theorem Loc.U4(h:Loc ops o σ0 O){x:aAp}{s:Slot}{l:Nat}(hx:x∈o.op.operands)(hs:aV σ0.g x=some s)(hl:l∈s.E1):aF O.d l=aF σ0.d l:=
 h.d l (aHi.2 ⟨x,by grind,by grind⟩)
theorem XL{s:Slot}{new:List (Nat×j2)}(h:JO F o σ0 s new)(hl:Loc ops o σ0 O):JO F o O s new:=λρ S a w K=>
 h ρ S a w ⟨K.low,λx u s A=>K.slot x u s (by rw[hl.ev u];grind),λx u s A i B C D=>K.U4 x u s (by rw[hl.ev u];omega) i B C (by rw[hl.U4 u A B];omega)⟩
theorem XM{b:Bool}(h:GK ops σ0.g o b)(hl:Loc ops o σ0 O):GK ops O.g o b:=by
 unfold GK at h ⊢;split
 ·rename_i u;rw[u] at h;exact h
 ·rename_i j C u;rw[u] at h;have B:∀t,(ops[j]?).bind (·.dst)=some t->lk O.g t=lk σ0.g t:=λt A=>hl.g t (by simp[Ny,u,A])
  grind
end
structure Itm where
 s:Slot
 nw:List (Nat×j2)
 fr:Bool
 rl:List Nat
def Rd(ops:Array aBa)(ms:List Nat):Bool:=Nat.beq ms.length ops.size && (List.range ops.size).all λi=>match ops[i]? with | none=>false | some o=>Nat.beq (ms.getD i 0) ((Kg o).foldl (λm j=>m ||| 1 <<< j ||| ms.getD j 0) 0)
inductive Anc (ops:Array aBa):Nat->Nat->Prop
 |one {i j:Nat} {o:aBa}:ops[i]? =some o->j∈Kg o->Anc ops i j
 |up {i k j:Nat} {o:aBa}:ops[i]? =some o->k∈Kg o->Anc ops k j->Anc ops i j
theorem Anc.down{ops:Array aBa}{L:Nat->Bool}(h:IY ops L):∀{i j:Nat},Anc ops i j->L i=true->L j=true:=by
 intro i j B
 induction B with
 |one A C=>exact λu=>h _ _ u A _ C
 |up A D _ E=>exact λu=>E (h _ _ u A _ D)
theorem Eb{ms:List Nat}{b:Nat}:∀{l:List Nat} {m:Nat},(l.foldl (λm j=>m ||| 1 <<< j ||| ms.getD j 0) m).testBit b=true->m.testBit b=true\/∃j∈l,j=b\/(ms.getD j 0).testBit b=true
 | [],m,h=> .inl h
 |j::l,m,h=>by
  rw[xz] at h;rcases Eb (l:=l) h with h |⟨q,u,h⟩
  ·rw[Nat.testBit_or,Nat.testBit_or,aGd,aGd] at h;rcases h with (h | h) | h
   ·exact .inl h
   ·refine .inr ⟨j,kg,.inl ?_⟩;rw[Nat.one_shiftLeft,Nat.testBit_two_pow] at h;simpa using h
   ·exact .inr ⟨j,kg,.inr h⟩
  ·exact .inr ⟨q,kf _ u,h⟩
theorem Ec{ops:Array aBa}(hb:xS ops=true){i j:Nat}{o:aBa}(ho:ops[i]? =some o)(hj:j∈Kg o):j<i:=by
 have u:i<ops.size:=by
  grind
 have:=nE.1 hb i (zd.2 u)
 grind
theorem RC{ops:Array aBa}{ms:List Nat}(hb:xS ops=true)(hm:Rd ops ms=true):∀i j,(ms.getD i 0).testBit j=true->Anc ops i j:=by
 simp only[Rd,bm,nE] at hm;obtain⟨B,hm⟩:=hm;have B:=gP B;intro i
 induction i using Nat.strongRecOn with
 |_ i E=>
  intro j h;rcases jl i ops.size with D | F
  ·have C:=hm i (zd.2 D);have u:ops[i]? =some ops[i]:=aD8 D;simp only[u] at C;rw[gP C] at h;rcases Eb h with h |⟨q,A,rfl | h⟩
   ·simp at h
   ·exact .one u A
   ·exact .up u A (E q (Ec hb u A) j h)
  ·rw[vo,zy (by omega)] at h;simp at h
theorem Anc.lt{ops:Array aBa}(hb:xS ops=true):∀{i j:Nat},Anc ops i j->j<i:=by
 intro i j h
 induction h with
 |one u A=>exact Ec hb u A
 |up u B _ C=>exact Nat.lt_trans C (Ec hb u B)
def xG(ops:Array aBa)(n:Nat)(ms:List Nat):Bool:=
 (List.range ops.size).all λi=>
  match ops[i]? with
  |none=>false
  |some o=>
   if i<n then
    (match o.dst with
     |none=>true
     |some t=>(List.range n).all λj=>
       match ops[j]? with
       |none=>false
       |some u=>(j==i || u.dst != some t) && (!(Ny ops u).contains t || (ms.getD j 0).testBit i || (ms.getD i 0).testBit j))
   else (List.range i).all λj=>(ms.getD i 0).testBit j
def zC(dst:Nat->Option Tmp)(sl:Nat->Slot)(g:List (Nat×Slot)):Nat->(Nat->Bool)->List (Nat×Slot) | 0,_=>g | m+1,L=>bif L m then gL (dst m) (sl m) (zC dst sl g m L) else zC dst sl g m L
section
variable {dst:Nat->Option Tmp}{sl:Nat->Slot}{g:List (Nat×Slot)}{nw:Nat->List (Nat×j2)}{d:List (Nat×j2)}
theorem Jh{t:Option Tmp}{s:Slot}{g:List (Nat×Slot)}{u:Nat}:lk (gL t s g) u=if t=some u then some s else lk g u:=by
 cases t<;>simp[gL,kF,W6]
theorem Bw{u:Nat}{L L':Nat->Bool}:∀{m:Nat},(∀i,i<m->dst i=some u->L i=L' i)->lk (zC dst sl g m L) u=lk (zC dst sl g m L') u
 | 0,_=>rfl
 |m+1,h=>by
  have A:=Bw (m:=m) (λi B=>h i (by omega))
  grind [zC,Jh]
theorem JU{u j:Nat}{L:Nat->Bool}(hj:dst j=some u)(hL:L j=true):∀{m:Nat},j<m->(∀i,i<m->i≠j->dst i≠some u)->lk (zC dst sl g m L) u=some (sl j)
 | 0,h,_=>by omega
 |m+1,h,A=>by
  simp only[zC];by_cases B:j=m
  ·grind [Jh]
  ·have C:=JU (m:=m) hj hL (by omega) (λi D=>A i (by omega));have:=(by omega)
   grind [Jh]
theorem Re{y:Nat×Slot}{L:Nat->Bool}:∀{m:Nat},y∈zC dst sl g m L->y∈g\/∃i,i<m/\L i=true/\y.2=sl i
 | 0,h=> .inl h
 |m+1,h=>by
  simp only[zC] at h;cases hL:L m with
  |false=>
   rw[hL] at h;rcases Re (m:=m) h with h |⟨i,u,A⟩<;>grind
  |true=>
   rw[hL] at h;simp only[fE] at h;have:y∈zC dst sl g m L\/y.2=sl m:=by
    cases hd:dst m with
    |none=>rw[hd] at h;exact .inl h
    |some t=>
     rw[hd] at h;rcases sK.1 h with rfl | h
     ·exact .inr rfl
     ·exact .inl h
   rcases this with h | h
   ·rcases Re (m:=m) h with h |⟨i,u,A⟩<;>grind
   ·exact .inr ⟨m,by omega,hL,h⟩
end
theorem St.congr{F:w8}{O O':AS}{a:aBe}{w:aAf}(hg:∀u,lk O'.g u=lk O.g u)(hd:∀l,aF O'.d l=aF O.d l)(h:St F O a w):St F O' a w:=by
 obtain⟨⟨ρ,B,G⟩,C,D⟩:=h;have A:∀l en,aF O.d l=some en↔aF O'.d l=some en:=λl en=>by grind
 exact⟨⟨ρ,B.congr A,λt s E=>by grind [Un.congr]⟩,C,D⟩
section
theorem Cx{dst:Nat->Option Tmp}{sl:Nat->Slot}{g:List (Nat×Slot)}{L:Nat->Bool}{m:Nat}:∀{n:Nat},m<=n->(∀i,m<=i->i<n->L i=false)->zC dst sl g n L=zC dst sl g m L
 | 0,h,_=>by grind
 |n+1,h,A=>by
  rcases jl n m with u | u
  ·grind
  ·simp[zC,A n u (by omega),cG];exact Cx u λi B C=>A i B (by omega)
theorem Gm{dst:Nat->Option Tmp}{sl:Nat->Slot}{g:List (Nat×Slot)}{L:Nat->Bool}:∀{m:Nat},zC dst sl g (m+1) L=zC (λi=>dst (i+1)) (λi=>sl (i+1)) (bif L 0 then gL (dst 0) (sl 0) g else g) m (λi=>L (i+1))
 | 0=>rfl
 |m+1=>by rw[zC,Gm (m:=m)];rfl
end
section
variable {its:List Itm}{d:Option Tmp}{x y:aAp}
end
def Fu.raw:Fu aA4 where
 n:=1
 agg:=false
 ok x _ _ cs:=cs=[x]/\x.oneCell'=true
 len h:=by rw[h.1];rfl
 one _:=rfl
 cell h c hc:=by rw[h.1] at hc;simp at hc;subst hc;exact h.2
 mono h _:=h
def K0{α:Type}(T:aAg)(e:Fu α)(xs:List α)(S:Nat->Prop)(w:aAf)(v:aA4):Prop:=(xs=[]/\v= .slice none 0 0)\/∃b cap pre cs post,v= .slice (some ⟨b,pre.length,none⟩) xs.length cap/\w.heap[b]? =some (.cells (pre++(cs++post)).toArray T (0,0))/\e.H8 xs S w cs/\xs.length<=cap/\cap*e.n<=cs.length+post.length/\xs.length<=140737488355328
theorem K0.mono{α:Type}{T:aAg}{e:Fu α}{xs:List α}{S S':Nat->Prop}{w w':aAf}{v:aA4}(h:K0 T e xs S w v)(k:Ext S S' w w')(hb:∀b,E2 v=some b->w'.heap[b]? =w.heap[b]?):K0 T e xs S' w' v:=by
 rcases h with h |⟨b,A,B,cs,C,u,D,E,F⟩
 ·exact .inl h
 ·exact .inr ⟨b,A,B,cs,C,u,by rw[hb b (by rw[u];rfl)];exact D,Fu.q8 E k,F⟩
theorem K0.slice{α:Type}{T:aAg}{e:Fu α}{xs:List α}{S:Nat->Prop}{w:aAf}{v:aA4}(h:K0 T e xs S w v):∃a c,v= .slice a xs.length c:=by
 rcases h with⟨rfl,rfl⟩|⟨b,A,B,cs,C,u,_⟩
 ·exact⟨none,0,rfl⟩
 ·exact⟨_,_,u⟩
theorem Core.aJn{F:w8}{d d':List (Nat×j2)}{ρ ρ':Nat->LV}{w:aAf}(hc:Core F d ρ w)(hU:∀l en b,aF d' l=some en->mS (ρ' l) b->∃l0 E8,aF d l0=some E8/\mS (ρ l0) b)(T7:∀i j en en' b,aF d' i=some en->aF d' j=some en'->mS (ρ' i) b->mS (ρ' j) b->i=j)(I1:Ext (Un F.S0 ρ d) (Un F.S0 ρ' d') w w->∀l en,aF d' l=some en->en.ok ρ' (Un F.S0 ρ' d') w (ρ' l)):Core F d' ρ' w/\Ext (Un F.S0 ρ d) (Un F.S0 ρ' d') w w:=by
 have C:Ext (Un F.S0 ρ d) (Un F.S0 ρ' d') w w:=⟨gC _,λk _ D=>⟨rfl,λh=>D (by
  rcases h with h |⟨l,en,E,G⟩
  ·exact .inl h
  ·obtain⟨l0,E8,u,A⟩:=hU l en k E G
   exact .inr ⟨l0,E8,u,A⟩)⟩⟩
 refine⟨⟨hc.low,hc.size,hc.frame,hc.os,hc.tape,hc.output,I1 C,λi en b h B=>?_,T7,λi en b h B=>?_⟩,C⟩
 ·obtain⟨l0,E8,u,A⟩:=hU i en b h B;exact hc.fresh l0 E8 b u A
 ·obtain⟨l0,E8,u,A⟩:=hU i en b h B;exact hc.apart l0 E8 b u A
structure Rws {α:Type} (T2:aAg) (e:Fu α) (xss:List (List α)) (o:Option Nat) (S:Nat->Prop) (w:aAf) (x:Nat->Prop) (b0:Option Nat) (hs:List aA4):Prop where
 len:hs.length=xss.length
 ok:∀j xs h,o≠some j->xss[j]? =some xs->hs[j]? =some h->K0 T2 e xs S w h
 own:∀j h k,o≠some j->hs[j]? =some h->E2 h=some k->x k/\b0≠some k
 inj:∀j j' h h' k,o≠some j->o≠some j'->hs[j]? =some h->hs[j']? =some h'->E2 h=some k->E2 h'=some k->j=j'
section
variable {d:Option Tmp}{x y:aAp}{e:Fu α}{T:aAg}{xss:List (List α)}{i j:Nat}
theorem Ed{dd:List (Nat×j2)}{l k:Nat}{en en':j2}(h:aF ((k,en')::dd) l=some en):(l=k/\en=en')\/(l≠k/\aF dd l=some en):=by
 rw[bA] at h;split at h
 ·rename_i u;cases h;exact .inl ⟨u.symm,rfl⟩
 ·rename_i u;exact .inr ⟨λe=>u e.symm,h⟩
theorem Ks{v:aA4}{x:Nat->Prop}{b:Nat}:mS ⟨v,x⟩ b↔E2 v=some b\/x b:=Iff.rfl
end
theorem Core.step{F:w8}{d d':List (Nat×j2)}{ρ ρ':Nat->LV}{w w':aAf}(hc:Core F d ρ w){c:Option Nat}(pw:J5 c w w')(L4:∀b,c=some b->∃l en,aF d l=some en/\mS (ρ l) b)(hU:∀l en b,aF d' l=some en->mS (ρ' l) b->(w.heap.size<=b/\b<w'.heap.size)\/∃l0 E8,aF d l0=some E8/\mS (ρ l0) b)(T7:∀i j en en' b,aF d' i=some en->aF d' j=some en'->mS (ρ' i) b->mS (ρ' j) b->i=j)(I1:Ext (Un F.S0 ρ d) (Un F.S0 ρ' d') w w'->∀l en,aF d' l=some en->en.ok ρ' (Un F.S0 ρ' d') w' (ρ' l)):Core F d' ρ' w'/\Ext (Un F.S0 ρ d) (Un F.S0 ρ' d') w w':=by
 have G:Ext (Un F.S0 ρ d) (Un F.S0 ρ' d') w w':=⟨pw.size,λk D I=>⟨pw.other k D (λe=>I (by obtain⟨l,en,B,C⟩:=L4 k e.symm;exact .inr ⟨l,en,B,C⟩)),λh=>I (by
  rcases h with h |⟨l,en,B,C⟩
  ·exact .inl h
  ·rcases hU l en k B C with h |⟨l0,E8,u,A⟩
   ·omega
   ·exact .inr ⟨l0,E8,u,A⟩)⟩⟩
 refine⟨⟨hc.low,eo hc.size pw.size,λk D K=>?_,pw.os.trans hc.os,pw.tape.trans hc.tape,pw.output.trans hc.output,I1 G,λi en b h E=>?_,T7,λi en b h E=>?_⟩,G⟩
 ·rw[pw.other k (gn D hc.size) (λe=>?_)]
  ·exact hc.frame k D K
  ·obtain⟨l,en,B,C⟩:=L4 k e.symm;rcases (hc.fresh l en k B C).1 with h | h
   ·omega
   ·exact K h
 ·rcases hU i en b h E with u |⟨l0,E8,u,A⟩
  ·exact⟨.inl (eo hc.size u.1),u.2⟩
  ·exact⟨(hc.fresh l0 E8 b u A).1,gn (hc.fresh l0 E8 b u A).2 pw.size⟩
 ·rcases hU i en b h E with u |⟨l0,E8,u,A⟩
  ·intro L;have:=hc.low b L;have:=hc.size;omega
  ·exact hc.apart l0 E8 b u A
section
variable {d:Option Tmp}{x y z:aAp}{e:Fu α}{T:aAg}{xss:List (List α)}{i j m:Nat}
theorem BK{xs ys:List α}{lo hi:Int}{S:Nat->Prop}{w:aAf}{v:aA4}{a:Option aBc}{cap:Nat}{ρ:Nat->LV}(hs:sub xs lo hi=some ys)(h:K0 T e xs S w v)(hv:v= .slice a xs.length cap)(hρ:(ρ i).v=v):(Slot.sub i (lo.toNat*e.n) (hi.toNat - lo.toNat)).ok ρ S w (.slice (if cap=lo.toNat then a else a.map (·.add (lo.toNat*e.n))) (hi.toNat - lo.toNat) (cap - lo.toNat)):=by
 obtain⟨E,F,G,_⟩:=eB hs;have D:xs.length<=cap:=by
  rcases h with⟨rfl,rfl⟩|⟨b,A,B,cs,C,rfl,_,_,I,_⟩
  ·simp
  ·simp only[Value.slice.injEq] at hv;omega
 simp only[Slot.ok];rw[hρ,hv];refine⟨⟨_,_,_,rfl⟩,cap - lo.toNat,if cap=lo.toNat then 0 else lo.toNat*e.n,by omega,?_,?_⟩
 ·split
  ·right;omega
  ·exact .inl rfl
 ·split
  ·cases a with
   |none=>rfl
   |some u=>
    have:u.spot=none:=by
     rcases h with⟨rfl,rfl⟩|⟨b,A,B,cs,C,rfl,_⟩
     ·cases hv
     ·simp only[Value.slice.injEq,W6] at hv;rw[<-hv.1]
    obtain⟨b,o,q⟩:=u;simp only at this;subst this;rfl
  ·cases a with
   |none=>rfl
   |some u=>
    have:u.spot=none:=by
     rcases h with⟨rfl,rfl⟩|⟨b,A,B,cs,C,rfl,_⟩
     ·cases hv
     ·simp only[Value.slice.injEq,W6] at hv;rw[<-hv.1]
    obtain⟨b,o,q⟩:=u;simp only at this;subst this;simp[Tc,Addr.add_lit]
theorem Tv{xs:List α}{xs':Array aAp}{ρ:Nat->LV}{S a w}(K:M4 O xs' ρ S a w)(hm:x∈xs')(hx:aV O.g x=some (.ref i))(he:aF O.d i=some (.arr T e xs)):∃ad cap,a.eval x= .slice ad xs.length cap/\xs.length<=cap/\(ρ i).v= .slice ad xs.length cap/\K0 T e xs S w (ρ i).v:=by
 obtain⟨C,u,_⟩:=xF K hm hx he;have u:K0 T e xs S w (ρ i).v:=u;obtain⟨ad,cap,A⟩:=u.slice;refine⟨ad,cap,by grind,?_,A,u⟩;rcases u with⟨rfl,B⟩|⟨b,D,E,cs,F,B,_,_,G,_⟩<;>grind
theorem RD{xs ys:List α}{hi:Int}{k':aA7}{E:aAg}(hs:sub xs 0 hi=some ys)(hx:aV O.g x=some (.ref i))(he:aF O.d i=some (.arr T e xs))(hz:aV O.g z=some (.v (Fu.int k') hi))(hU:∀w,(underlying U).run F.P w= .ok (.slice E) w)(hE:∀w,(sizeOf E).run F.P w= .ok e.n w):JO F ⟨d,.slice U x none (some z) none,ty,p,af,gd⟩ O (.sub i ((0:Int).toNat*e.n) (hi.toNat - (0:Int).toNat)) []:=by
 intro ρ S a w K;obtain⟨G,A,B,I,C,D⟩:=Tv K (by simp[Op.operands]) hx he;have u:=(dC K (by simp[Op.operands]) hz).1;obtain⟨L,s1,s2,_⟩:=eB hs;refine j6.value ?_ (y9.same (BK hs D C rfl));simp[execOp,Instr.sliceAt,Instr.slice,B,u,hU,hE,Dz s1 (show hi<=(A) by omega)]
theorem Ji{xs ys:List α}{lo:Int}{k:aA7}{E:aAg}(hs:sub xs lo (xs.length:Int)=some ys)(hx:aV O.g x=some (.ref i))(he:aF O.d i=some (.arr T e xs))(hy:aV O.g y=some (.v (Fu.int k) lo))(hU:∀w,(underlying U).run F.P w= .ok (.slice E) w)(hE:∀w,(sizeOf E).run F.P w= .ok e.n w):JO F ⟨d,.slice U x (some y) none none,ty,p,af,gd⟩ O (.sub i (lo.toNat*e.n) ((xs.length:Int).toNat - lo.toNat)) []:=by
 intro ρ S a w K;obtain⟨C,D,G,I,u,A⟩:=Tv K (by simp[Op.operands]) hx he;have B:=(dC K (by simp[Op.operands]) hy).1;obtain⟨L,s1,s2,_⟩:=eB hs;refine j6.value ?_ (y9.same (BK hs A u rfl))
 simp_all [execOp,Instr.sliceAt,Instr.slice,Ax]
end
section
variable {d:Option Tmp}{x y z:aAp}
theorem JV{P:aA5}{w:aAf}{U:aAg}{a c e:List aA4}{n:Nat}{ag:Bool}(hA:∀w,(isAgg U).run P w= .ok ag w)(hS:∀w,(sizeOf U).run P w= .ok n w)(hl:c.length=n)(h1:ag=false->n=1):(part U (a++(c++e)).toArray a.length).run P w= .ok (if ag then .agg c.toArray else c.headD undef) w:=by
 unfold part;simp only[Sem.run_bind,hA,Result.andThen_ok];cases ag with
 |true=>
  simp only[K4,Sem.run_bind,hS,Result.andThen_ok,Sem.run_pure];have:(a++(c++e)).toArray.extract a.length (a.length+n)=c.toArray:=by
   subst hl;rw[List.extract_toArray];congr 1;simp[List.extract]
  rw[this]
 |false=>
  have u:=h1 rfl;rw[u] at hl;obtain⟨v,rfl⟩:=aEk.1 hl;simp
theorem Ok{fn:Func}{u5:List (Nat×j2)}(hF:bp F F')(N3:fn.results= #[])(hn:K5 u5 O.d):XQ F' O (rN F fn (.q9 []) u5) .normal:=λa w h=>Kn hF N3 hn a w h
theorem Z.H2{u:aA4}(h:u.oneCell'=true):∀S w,(Fu.H2 u h).ok () S w [u]:=λ_ _=>rfl
end
def zD{α:Type}(e:Fu α):Fu (List α) where
 n:=1
 agg:=false
 ok xs S w cs:=(Fu.sl e).ok xs S w cs/\∀a l c,cs=[.slice a l c]->l=c
 len h:=(Fu.sl e).len h.1
 one _:=rfl
 cell h:=(Fu.sl e).cell h.1
 mono h k:=⟨(Fu.sl e).mono h.1 k,h.2⟩
theorem RE{α:Type}{e:Fu α}{xs:List α}{S w u}(h:(zD e).val xs S w u):(Fu.sl e).val xs S w u/\∀a l c,u= .slice a l c->l=c:=by
 obtain⟨cs,⟨B,I⟩,rfl⟩:=h;refine⟨⟨cs,B,rfl⟩,?_⟩;obtain⟨a,E,F,_⟩:=B;intro C D c2 A;rw[F] at A;have G:(Value.slice a xs.length E)= .slice C D c2:=A
 grind
section
variable {d:Option Tmp}{x y:aAp}
theorem BL{α:Type}{e:Fu α}{U E:aAg}{len:Nat}{z:aA4}{ps:List (Nat×aAp)}{zs:List α}(hU:∀w,(underlying U).run F.P w= .ok (.slice E) w)(hS:∀w,(sizeOf E).run F.P w= .ok e.n w)(hz:∀w,(zeroValue E).run F.P w= .ok z w)(hle:Nat.ble (len*e.n) 16777216=true)(hl:ps.length=len)(U1:zs.length=len)(hb:Nat.ble len 16777216=true)(he:N0 O e 0 ps zs):JO F ⟨d,.buildSlice U len ps.toArray,ty,p,af,gd⟩ O (.v (zD e) zs) []:=by
 intro ρ S a w K;obtain⟨u,L,M⟩:=Qv (d:=d) (ty:=ty) (p:=p) (af:=af) (gd:=gd) hU hS hz hle hl he K;have A:=gO w (.cells u.toArray E);have C:Ext S (Un S ρ []) w (w.alloc (.cells u.toArray E)):=qL A λk _ h=>by
  rcases h with h |⟨i,Q,h,_⟩
  ·exact h
  ·simp[aF] at h
 refine j6.value M ⟨ρ,λ_ _=>rfl,A,?_,⟨λ_ _ h=>by simp[aF] at h,λ_ _ _ h=>by simp[aF] at h,λ_ _ _ _ _ h=>by simp[aF] at h⟩⟩;simp only[Slot.ok];have hb:=gQ hb;have D:=by
  refine lY.2 ⟨_,len,by rw[U1],⟨by omega,by omega⟩,.inr ⟨w.heap.size,0,u,rfl,by simp,?_,Au w u E,Fu.q8 L C⟩⟩;rintro (h |⟨i,Q,h,_⟩)
  ·have:=K.low _ h;omega
  ·simp[aF] at h
 obtain⟨cs,N,B⟩:=D;refine⟨cs,⟨N,λR T V I=>?_⟩,B⟩;subst I;have G:=B;injection G with _ e1 e2
 omega
theorem Rf{α:Type}{e:Fu α}{xs ys zs:List α}{T U:aAg}{ti:TypeInfo}{zv:aA4}(ha:app xs ys=some zs)(hx:aV O.g x=some (.v (zD e) xs))(hy:Src O y e ys)(hU:∀w,(underlying U).run F.P w= .ok (.slice T) w)(hI:∀w,(typeInfo T).run F.P w= .ok ti w)(hS:∀w,(sizeOf T).run F.P w= .ok e.n w)(hz:ti.zero=some zv)(hzs:zv.cells.size=e.n)(cx:Nat.ble ti.bytes 4096=true):JO F ⟨d,.call ⟨.builtin .append,#[x,y],#[U,U]⟩,ty,p,af,gd⟩ O (.v (Fu.sl e) zs) []:=by
 obtain⟨ab,rfl⟩:=Tn ha;have cx:=gQ cx;intro ρ S a w K;have G:ti.size=e.n:=Jc hI hS;have Q:=K.slot x (by simp[Op.operands,Call.operands]) _ hx;simp only[Slot.ok] at Q;obtain⟨L,ai⟩:=RE Q;obtain⟨C,al,M,⟨L7,L0⟩,h2⟩:=lY.1 L;have ac:=ai _ _ _ M;subst ac;obtain⟨cs,D,D6,P4⟩:∃cs,e.H8 xs S w cs/\cs.length=xs.length*e.n/\∀g,C=some g->∀j u,cs[j]? =some u->w.cell? (g.add j)=some u:=by
  rcases h2 with rfl |⟨g,o1,cs,rfl,an,ao,aj,D⟩
  ·exact⟨[],rfl,by simp,λg _ j u hj=>by simp at hj⟩
  ·exact⟨cs,D,bG D,λg hg=>by cases hg;exact aj.cell⟩
 have ft:C=none->xs=[]:=by
  rintro rfl;rcases h2 with h |⟨_,_,_,h,_⟩
  ·exact h
  ·cases h
 have R:∀q,q∈#[y]->q∈(Op.call ⟨.builtin .append,#[x,y],#[U,U]⟩).operands:=by
  intro q B;have jv:q=y:=by simpa using B
  subst jv;simp[Op.operands,Call.operands]
 obtain⟨ql,ad,c,h4,h5⟩:=hy ρ S a w ⟨K.low,λq B s h=>K.slot q (R q B) s h,λq B s h=>K.U4 q (R q B) s h⟩;have V:∀v w',(Builtin.append_ #[U,U] ty #[.slice C xs.length xs.length,.slice ad ys.length c]).run F.P w= .ok v w'->(execOp a.eval ⟨d,.call ⟨.builtin .append,#[x,y],#[U,U]⟩,ty,p,af,gd⟩).run F.P w= .ok (.value v) w':=by
  intro v w' h;simp[execOp,resolve,invoke,builtin,M,h4,h]
 have X:∀{w':aAf},aKd ρ (Un S ρ []) w w' []:=⟨λi en h=>by simp[aF] at h,λi en b h=>by simp[aF] at h,λi j en ak b h=>by simp[aF] at h⟩;by_cases I:ys=[]
 ·subst I;refine j6.value (V _ w (sQ hU hS (gC _))) ⟨ρ,λ_ _=>rfl,Below.refl _ _,?_,X⟩;simp only[Slot.ok,rf,Un.none];rw[M] at L;exact L
 ·obtain⟨b,N,A,rfl,hm,yp⟩:=h5.resolve_left I;have ae:0<ys.length:=aD4.2 I;have th:=bG yp;have xp:=grownCap_ge w (xs.length+ys.length) xs.length T;have hr:(Builtin.append_ #[U,U] ty #[.slice C xs.length xs.length,.slice (some ⟨b,N,none⟩) ys.length c]).run F.P w= .ok (.slice (some ⟨w.heap.size,0,none⟩) (xs.length+ys.length) (grownCap w (xs.length+ys.length) xs.length T)) (w.drew.alloc (.cells (cs.toArray++A.toArray++Builtin.zeroCells zv.cells (grownCap w (xs.length+ys.length) xs.length T - (xs.length+ys.length))) T)):=by
   cases C with
   |none=>
    have h0:=ft rfl;subst h0;have:cs=[]:=ya (by simpa using D6);subst this
    have:=run_append_nil (P:=F.P) w U ty T ti zv (oB hU) (uT hI) hz ⟨b,N,none⟩ ys.length c A (by rw[G];exact th) hm.cell ae (by omega) (by
     have:ys.length*ti.bytes<=4294967296*4096:=aGh (by simp at ab;omega) cx
     omega)
    simpa using this
   |some g=>exact run_append_grow (P:=F.P) w U ty T ti zv (oB hU) (uT hI) hz g xs.length xs.length cs (by rw[G];exact D6) (P4 g rfl) ⟨b,N,none⟩ ys.length c A (by rw[G];exact th) hm.cell (by omega) (by omega) (growslice_fits (by omega) (by
   have:(xs.length+ys.length)*ti.bytes<=4294967296*4096:=aGh ab cx
   omega))
  obtain⟨w',E⟩:∃w',w'=w.drew.alloc (.cells (cs.toArray++A.toArray++Builtin.zeroCells zv.cells (grownCap w (xs.length+ys.length) xs.length T - (xs.length+ys.length))) T (0,0)):=⟨_,rfl⟩;have hb:Below w.heap.size w w':=by rw[E];exact(Below.refl _ w).drew.alloc (gC _) _
  refine j6.value (V _ w' (by rw[E];exact hr)) ⟨ρ,λ_ _=>rfl,hb,?_,X⟩;simp only[Slot.ok];have hE:Ext S (Un S ρ []) w w':=by rw[Un.none];exact qL hb λ_ _ h=>h
  refine lY.2 ⟨_,_,by rw[cM],⟨by rw[cM];exact xp,by rw[cM];omega⟩,.inr ⟨w.heap.size,0,cs++A,rfl,?_,?_,?_,Fu.q8 (fG D yp) hE⟩⟩
  ·rw[E,World.size_alloc];exact Nat.lt_succ_self _
  ·rw[Un.none];intro h;have:=K.low _ h;omega
  ·have h6:w'.heap[w.heap.size]? =some (.cells ([]++((cs++A)++(Builtin.zeroCells zv.cells (grownCap w (xs.length+ys.length) xs.length T - (xs.length+ys.length))).toList)).toArray T (0,0)):=by
    rw[E,show w.heap.size=w.drew.heap.size from rfl,heap_alloc_new];congr 2;apply Array.ext';simp
   have:=(r8.of_heap h6).sub;simpa using this
theorem Jj{α:Type}{e:Fu α}{xs ys zs:List α}{T U:aAg}{ti:TypeInfo}{zv:aA4}(ha:app xs ys=some zs)(_:xs≠ [])(hx:aV O.g x=some (.v (zD e) xs))(hy:Src O y e ys)(hU:∀w,(underlying U).run F.P w= .ok (.slice T) w)(hI:∀w,(typeInfo T).run F.P w= .ok ti w)(hS:∀w,(sizeOf T).run F.P w= .ok e.n w)(hz:ti.zero=some zv)(hzs:zv.cells.size=e.n)(cx:Nat.ble ti.bytes 4096=true):JO F ⟨d,.call ⟨.builtin .append,#[x,y],#[U,U]⟩,ty,p,af,gd⟩ O (.v (Fu.sl e) zs) []:=Rf ha hx hy hU hI hS hz hzs cx
end
section
variable {P:aA5}
end
section
variable {σA:AS}
end
structure E4 where
 s:Slot
 nw:List (Nat×j2)
 fr:List (Nat×j2)
 rl:List Nat
 dl:List Nat
inductive E9 (F:w8) (ops:Array aBa) (OK:List (Nat×j2)->Prop):List aBa->AS->List E4->AS->Prop
 |nil {O:AS}:E9 F ops OK [] O [] O
 |cons {o:aBa} {os:List aBa} {O O':AS} {s:Slot} {new:List (Nat×j2)} {h:List E4}:GK ops O.g o true->JO F o O s new->eR o.dst F.N=true->
   E9 F ops OK os ⟨gL o.dst s O.g,new++O.d⟩ h O'->E9 F ops OK (o::os) O (⟨s,new,new,Bv O.g o,[]⟩::h) O'
 |left {o:aBa} {os:List aBa} {O O':AS} {h:List E4}:GK ops O.g o false->eR o.dst F.N=true->E9 F ops OK os ⟨gL o.dst .top O.g,O.d⟩ h O'->E9 F ops OK (o::os) O (⟨.top,[],[],Bv O.g o,[]⟩::h) O'
 |pu {o:aBa} {os:List aBa} {O O':AS} {s:Slot} {h:List E4}:GK ops O.g o true->eR o.dst F.N=true->(∀d,OK d->JO F o ⟨O.g,d⟩ s [])->E9 F ops OK os ⟨gL o.dst s O.g,O.d⟩ h O'->E9 F ops OK (o::os) O (⟨s,[],[],[],[]⟩::h) O'
 |mv {o:aBa} {os:List aBa} {O O':AS} {s:Slot} {nw fr:List (Nat×j2)} {dl:List Nat} {h:List E4}:GK ops O.g o true->eR o.dst F.N=true->(∀σ2,Loc ops o O σ2->σ2.free fr=true->JM F o σ2 ⟨gL o.dst s σ2.g,nw++gS σ2.d dl⟩)->
   E9 F ops OK os ⟨gL o.dst s O.g,nw++gS O.d dl⟩ h O'->E9 F ops OK (o::os) O (⟨s,nw,fr,Bv O.g o,dl⟩::h) O'
 |mvx {o:aBa} {os:List aBa} {O O':AS} {s:Slot} {nw fr:List (Nat×j2)} {dl ex:List Nat} {h:List E4}:GK ops O.g o true->eR o.dst F.N=true->(∀σ2,Loc ops o O σ2->(∀l∈ex,aF σ2.d l=aF O.d l)->σ2.free fr=true->JM F o σ2 ⟨gL o.dst s σ2.g,nw++gS σ2.d dl⟩)->
   E9 F ops OK os ⟨gL o.dst s O.g,nw++gS O.d dl⟩ h O'->E9 F ops OK (o::os) O (⟨s,nw,fr,Bv O.g o++ex,dl⟩::h) O'
def XN(a b:E4):Bool:=(a.nw.map (·.1)++a.dl).all λl=>(!b.rl.contains l && !b.dl.contains l) && b.nw.all λy=> !Nat.beq y.1 l
def Tw(its:List E4)(ms:List Nat):Bool:=(List.range its.length).all λi=>(List.range its.length).all λj=>Nat.beq i j || (ms.getD j 0).testBit i || (ms.getD i 0).testBit j || (match its[i]?,its[j]? with | some a,some b=>XN a b | _,_=>true)
def Tx(O:AS)(its:List E4)(ms:List Nat):Bool:=
 (List.range its.length).all λj=>match its[j]? with
  |none=>true
  |some b=>b.fr.all λx=>(O.g.all λy=> !y.2.E1.contains x.1) && (O.d.all λy=> !Nat.beq y.1 x.1 && !y.2.E1.contains x.1) &&
    (List.range its.length).all λi=>Nat.beq i j || (ms.getD i 0).testBit j || (match its[i]? with | none=>true | some a=> !a.s.E1.contains x.1 && a.nw.all λy=> !Nat.beq y.1 x.1 && !y.2.E1.contains x.1)
def Ae(nw:Nat->List (Nat×j2))(dl:Nat->List Nat)(d:List (Nat×j2)):Nat->(Nat->Bool)->List (Nat×j2) | 0,_=>d | m+1,L=>bif L m then nw m++gS (Ae nw dl d m L) (dl m) else Ae nw dl d m L
section
variable {nw:Nat->List (Nat×j2)}{dl:Nat->List Nat}{d:List (Nat×j2)}
theorem Bx{l:Nat}{L L':Nat->Bool}:∀{m:Nat},(∀i,i<m->(aF (nw i) l≠none\/l∈dl i)->L i=L' i)->aF (Ae nw dl d m L) l=aF (Ae nw dl d m L') l
 | 0,_=>rfl
 |m+1,h=>by
  have u:=Bx (m:=m) (λi A=>h i (by omega))
  grind [Ae,aF,gB,qO,absurd]
theorem JX{l j:Nat}{en:j2}{L:Nat->Bool}(hj:aF (nw j) l=some en)(hL:L j=true):∀{m:Nat},j<m->(∀i,j<i->i<m->L i=true->aF (nw i) l=none/\l∉dl i)->aF (Ae nw dl d m L) l=some en
 | 0,h,_=>by omega
 |m+1,h,A=>by
  simp[Ae];by_cases B:j=m
  ·grind [gB]
  ·have C:=JX (m:=m) hj hL (by omega) (λi u D=>A i u (by omega))
   grind [gB,qO]
theorem Ty{l j:Nat}{L:Nat->Bool}(hj:aF (nw j) l=none)(hg:l∈dl j)(hL:L j=true):∀{m:Nat},j<m->(∀i,j<i->i<m->L i=true->aF (nw i) l=none/\l∉dl i)->aF (Ae nw dl d m L) l=none
 | 0,h,_=>by omega
 |m+1,h,A=>by
  simp[Ae];by_cases B:j=m
  ·grind [gB,qO]
  ·have C:=Ty (m:=m) hj hg hL (by omega) (λi u D=>A i u (by omega))
   grind [gB,qO]
theorem Kt{y:Nat×j2}{i:Nat}:∀{d:List (Nat×j2)},y∈rC d i->y∈d
 | [],h=>by grind [rC]
 | (j,u)::r,h=>by
  simp[rC] at h;cases hb:Nat.beq j i with
  |true=>rw[hb] at h;exact kf _ (Kt h)
  |false=>
   rw[hb] at h;rcases sK.1 h with h | h
   ·grind
   ·exact kf _ (Kt h)
theorem Ol{y:Nat×j2}{d:List (Nat×j2)}:∀{H:List Nat},y∈gS d H->y∈d | [],h=>h | _::H,h=>Ol (H:=H) (Kt h)
theorem Rg{y:Nat×j2}{L:Nat->Bool}:∀{m:Nat},y∈Ae nw dl d m L->y∈d\/∃i,i<m/\L i=true/\y∈nw i
 | 0,h=> .inl h
 |m+1,h=>by
  simp only[Ae] at h;cases hL:L m with
  |false=>
   rw[hL] at h;rcases Rg (m:=m) h with h |⟨i,u,A⟩<;>grind
  |true=>
   rw[hL] at h;rcases oq.1 h with h | h
   ·exact .inr ⟨m,by omega,hL,h⟩
   ·rcases Rg (m:=m) (Ol h) with h |⟨i,u,A⟩<;>grind
theorem Cy{L:Nat->Bool}{m:Nat}:∀{n:Nat},m<=n->(∀i,m<=i->i<n->L i=false)->Ae nw dl d n L=Ae nw dl d m L
 | 0,h,_=>by grind
 |n+1,h,A=>by
  rcases jl n m with u | u
  ·grind
  ·simp[Ae,A n u (by simp),cG];exact Cy u λi B C=>A i B (by omega)
theorem Gn{L:Nat->Bool}:∀{m:Nat},Ae nw dl d (m+1) L=Ae (λi=>nw (i+1)) (λi=>dl (i+1)) (bif L 0 then nw 0++gS d (dl 0) else d) m (λi=>L (i+1))
 | 0=>rfl
 |m+1=>by rw[Ae,Gn ];rfl
end
section
structure aO5 (F:w8) (ops:Array aBa) (OK:List (Nat×j2)->Prop) (dst:Nat->Option Tmp) (its:Nat->E4) (O:AS) (n:Nat) (i:Nat) (o:aBa):Prop where
 ok:eR o.dst F.N=true
 cs:(∃ex,(its i).rl=Bv (zC dst (λi=>(its i).s) O.g n (λk=>decide (k<i))) o++ex/\
  ((GK ops (zC dst (λi=>(its i).s) O.g n (λk=>decide (k<i))) o true/\(its i).fr=(its i).nw/\(its i).dl=[]/\JO F o ⟨zC dst (λi=>(its i).s) O.g n (λk=>decide (k<i)),Ae (λi=>(its i).nw) (λi=>(its i).dl) O.d n (λk=>decide (k<i))⟩ (its i).s (its i).nw)\/
  (GK ops (zC dst (λi=>(its i).s) O.g n (λk=>decide (k<i))) o false/\(its i).s= .top/\(its i).nw=[]/\(its i).dl=[])\/
  (GK ops (zC dst (λi=>(its i).s) O.g n (λk=>decide (k<i))) o true/\
   ∀σ2,Loc ops o ⟨zC dst (λi=>(its i).s) O.g n (λk=>decide (k<i)),Ae (λi=>(its i).nw) (λi=>(its i).dl) O.d n (λk=>decide (k<i))⟩ σ2->(∀l∈ex,aF σ2.d l=aF (Ae (λi=>(its i).nw) (λi=>(its i).dl) O.d n (λk=>decide (k<i))) l)->σ2.free (its i).fr=true->JM F o σ2 ⟨gL o.dst (its i).s σ2.g,(its i).nw++gS σ2.d (its i).dl⟩)))\/
  (GK ops (zC dst (λi=>(its i).s) O.g n (λk=>decide (k<i))) o true/\(its i).nw=[]/\(its i).fr=[]/\(its i).dl=[]/\∀d,OK d->JO F o ⟨zC dst (λi=>(its i).s) O.g n (λk=>decide (k<i)),d⟩ (its i).s [])
theorem E9.len{os:List aBa}{O O':AS}{h:List E4}(hp:E9 F ops OK os O h O'):h.length=os.length:=by
 induction hp<;>grind
theorem E9.at{os:List aBa}{O O':AS}{h:List E4}(hp:E9 F ops OK os O h O'):O'.g=zC (λi=>(os[i]?).bind (·.dst)) (λi=>(h.getD i ⟨.top,[],[],[],[]⟩).s) O.g os.length (λ_=>true)/\O'.d=Ae (λi=>(h.getD i ⟨.top,[],[],[],[]⟩).nw) (λi=>(h.getD i ⟨.top,[],[],[],[]⟩).dl) O.d os.length (λ_=>true)/\∀i o,os[i]? =some o->aO5 F ops OK (λi=>(os[i]?).bind (·.dst)) (λi=>h.getD i ⟨.top,[],[],[],[]⟩) O os.length i o:=by
 have step:∀{u:aBa} {os:List aBa} {O O':AS} {h:List E4} {it:E4},
   (O'.g=zC (λi=>(os[i]?).bind (·.dst)) (λi=>(h.getD i ⟨.top,[],[],[],[]⟩).s) (gL u.dst it.s O.g) os.length (λ_=>true)/\O'.d=Ae (λi=>(h.getD i ⟨.top,[],[],[],[]⟩).nw) (λi=>(h.getD i ⟨.top,[],[],[],[]⟩).dl) (it.nw++gS O.d it.dl) os.length (λ_=>true)/\
    ∀i o,os[i]? =some o->aO5 F ops OK (λi=>(os[i]?).bind (·.dst)) (λi=>h.getD i ⟨.top,[],[],[],[]⟩) ⟨gL u.dst it.s O.g,it.nw++gS O.d it.dl⟩ os.length i o)->
   aO5 F ops OK (λi=>((u::os)[i]?).bind (·.dst)) (λi=>(it::h).getD i ⟨.top,[],[],[],[]⟩) O (u::os).length 0 u->
   (O'.g=zC (λi=>((u::os)[i]?).bind (·.dst)) (λi=>((it::h).getD i ⟨.top,[],[],[],[]⟩).s) O.g (u::os).length (λ_=>true)/\O'.d=Ae (λi=>((it::h).getD i ⟨.top,[],[],[],[]⟩).nw) (λi=>((it::h).getD i ⟨.top,[],[],[],[]⟩).dl) O.d (u::os).length (λ_=>true)/\
    ∀i o,(u::os)[i]? =some o->aO5 F ops OK (λi=>((u::os)[i]?).bind (·.dst)) (λi=>(it::h).getD i ⟨.top,[],[],[],[]⟩) O (u::os).length i o):=by
  rintro u os O O' h it ⟨R,S,T⟩ U;refine⟨by rw[R,qf,Gm];rfl,by rw[S,qf,Gn];rfl,λi o E=>?_⟩;cases i with
  |zero=>simp at E;subst E;exact U
  |succ i=>
   have I:=T i o (by simpa using E);have M:zC (λi=>((u::os)[i]?).bind (·.dst)) (λi=>((it::h).getD i ⟨.top,[],[],[],[]⟩).s) O.g (u::os).length (λk=>decide (k<i+1))=
     zC (λi=>(os[i]?).bind (·.dst)) (λi=>(h.getD i ⟨.top,[],[],[],[]⟩).s) (gL u.dst it.s O.g) os.length (λk=>decide (k<i)):=by
    rw[qf,Gm];simp
   have N:Ae (λi=>((it::h).getD i ⟨.top,[],[],[],[]⟩).nw) (λi=>((it::h).getD i ⟨.top,[],[],[],[]⟩).dl) O.d (u::os).length (λk=>decide (k<i+1))=
     Ae (λi=>(h.getD i ⟨.top,[],[],[],[]⟩).nw) (λi=>(h.getD i ⟨.top,[],[],[],[]⟩).dl) (it.nw++gS O.d it.dl) os.length (λk=>decide (k<i)):=by
    rw[qf,Gn];simp
   refine⟨I.ok,?_⟩;rw[M,N];exact I.cs
 have B:∀{u:aBa} {os:List aBa} {O:AS} {h:List E4} {it:E4},zC (λi=>((u::os)[i]?).bind (·.dst)) (λi=>((it::h).getD i ⟨.top,[],[],[],[]⟩).s) O.g (u::os).length (λk=>decide (k<0))=O.g:=by
  intro u os O h it;rw[Cx (m:=0) (aHd _) (λi _ _=>by simp)];rfl
 have C:∀{u:aBa} {os:List aBa} {O:AS} {h:List E4} {it:E4},Ae (λi=>((it::h).getD i ⟨.top,[],[],[],[]⟩).nw) (λi=>((it::h).getD i ⟨.top,[],[],[],[]⟩).dl) O.d (u::os).length (λk=>decide (k<0))=O.d:=by
  intro u os O h it;rw[Cy (m:=0) (aHd _) (λi _ _=>by simp)];rfl
 induction hp with
 |nil=>exact⟨rfl,rfl,λi o h=>by simp at h⟩
 |cons g j d _ A=>
  rename_i o os O O' s K h _;refine step (it:=⟨s,K,K,Bv O.g o,[]⟩) A ⟨d,?_⟩;rw[B,C];exact .inl ⟨[],by simp,.inl ⟨g,rfl,rfl,j⟩⟩
 |left g d _ A=>
  rename_i o os O O' h _;refine step (it:=⟨.top,[],[],Bv O.g o,[]⟩) A ⟨d,?_⟩;rw[B,C];exact .inl ⟨[],by simp,.inr (.inl ⟨g,rfl,rfl,rfl⟩)⟩
 |pu g hd V hp A=>
  rename_i o os O O' s h;refine step (it:=⟨s,[],[],[],[]⟩) A ⟨hd,?_⟩;rw[B,C];exact .inr ⟨g,rfl,rfl,rfl,V⟩
 |mv g hd G hp A=>
  rename_i o os O O' s nw D dl h;refine step (it:=⟨s,nw,D,Bv O.g o,dl⟩) A ⟨hd,?_⟩;rw[B,C];exact .inl ⟨[],by simp,.inr (.inr ⟨g,λσ2 P _ Q=>G σ2 P Q⟩)⟩
 |mvx g hd G hp A=>
  rename_i o os O O' s nw D dl L h;refine step (it:=⟨s,nw,D,Bv O.g o++L,dl⟩) A ⟨hd,?_⟩;rw[B,C];exact .inl ⟨L,rfl,.inr (.inr ⟨g,G⟩)⟩
theorem Om{id:Nat}{ops:Array aBa}{cs:List aBb}{O σ1 O':AS}{its:List E4}{Q:aBd->aBe->aAf->Prop}(OK:List (Nat×j2)->Prop)(n:Nat)(ms:List Nat)(hm:F.P.follows .mixedOrders=true)(hp:E9 F ops OK (ops.toList.take n) O its σ1)(ht:J F ops (ops.toList.drop n) σ1 O')(hn:Nat.ble n ops.size=true)(V9:xS ops=true)(hms:Rd ops ms=true)(br:xG ops n ms=true)(zq:Tw its ms=true)(yo:Tx O its ms=true)(hOK:∀L,OK (Ae (λi=>(its.getD i ⟨.top,[],[],[],[]⟩).nw) (λi=>(its.getD i ⟨.top,[],[],[],[]⟩).dl) O.d n L))(k:W F cs O' Q):W F (.region id ops true::cs) O Q:=by
 intro a w hs;have hn:=gQ hn;obtain⟨l1,nv⟩:∃l1,l1=ops.toList.take n:=⟨_,rfl⟩;obtain⟨l2,fa⟩:∃l2,l2=ops.toList.drop n:=⟨_,rfl⟩;rw[<-nv] at hp;rw[<-fa] at ht;have S:ops.toList=l1++l2:=by rw[nv,fa];exact(sw n ops.toList).symm
 have mi:l1.length=n:=by rw[nv,Z1,rk];exact aGc hn
 have ci:its.length=n:=by rw[hp.len,mi]
 obtain⟨s1,d1,D9⟩:=hp.at;obtain⟨dst,a7⟩:∃dst:Nat->Option Tmp,dst=λi=>(l1[i]?).bind (·.dst):=⟨_,rfl⟩;obtain⟨E,al⟩:∃E:Nat->E4,E=λi=>its.getD i ⟨.top,[],[],[],[]⟩:=⟨_,rfl⟩;rw[<-a7,mi] at D9;rw[<-al] at D9;rw[<-a7,mi] at s1;rw[mi] at d1;have s1:σ1.g=zC dst (λi=>(E i).s) O.g n (λ_=>true):=by rw[s1,al]
 have d1:σ1.d=Ae (λi=>(E i).nw) (λi=>(E i).dl) O.d n (λ_=>true):=by rw[d1,al]
 have N2:ops.size=l1.length+l2.length:=by rw[<-rk,S,cM]
 have tg:∀i:Nat,ops[i]? =(l1++l2)[i]? :=λi=>by rw[<-S];exact(aH0).symm
 have bc:∀i,i<n->l1[i]? =ops[i]? :=λi A=>by rw[tg,aFx (by omega)]
 have J2:∀i o,i<n->ops[i]? =some o->dst i=o.dst:=λi o A D=>by rw[a7];show (l1[i]?).bind _=_;rw[bc i A,D];rfl
 have bd:∀i,i<n->∃o,ops[i]? =some o:=λi A=>⟨ops[i]'(by omega),aD8 (by omega)⟩;have ae:=RC V9 hms;have b2:∀i o,i<n->ops[i]? =some o->aO5 F ops OK dst E O n i o:=λi o A D=>D9 i o (by rw[bc i A];exact D);have ao:∀q,q<n->its[q]? =some (E q):=λq hq=>by
  rw[al];simp only[vo];rw[sE (by omega)];rfl
 have be:∀i j,i<n->j<n->i≠j->Anc ops j i\/Anc ops i j\/XN (E i) (E j)=true:=by
  intro i j A C T;have B:=nE.1 (nE.1 zq i (zd.2 (by omega))) j (zd.2 (by omega));simp only[aGd] at B;rcases B with ((B | B) | B) | B
  ·exact absurd (gP B) T
  ·exact .inl (ae _ _ B)
  ·exact .inr (.inl (ae _ _ B))
  ·refine .inr (.inr ?_);rw[ao i A,ao j C] at B;exact B
 have ax:∀{a b:E4} {l:Nat},XN a b=true->(aF a.nw l≠none\/l∈a.dl)->l∉b.rl/\l∉b.dl/\∀y∈b.nw,y.1≠l:=by
  intro a b l h hx;have S:l∈a.nw.map (·.1)++a.dl:=by
   rcases hx with hx | hx
   ·obtain⟨e,he⟩:=Option.ne_none_iff_exists'.1 hx;exact aHe _ (ot.2 ⟨_,lH he,rfl⟩)
   ·exact List.mem_append_right _ hx
  have:=nE.1 h _ S;simp only[bm,aEf,nE] at this;refine⟨λI=>?_,λI=>?_,λy hy e=>?_⟩
  ·have G:=this.1.1;simp at G;exact G I
  ·have G:=this.1.2;simp at G;exact G I
  ·have G:=this.2 y hy;rw[e] at G;simp at G
 obtain⟨σL,ad⟩:∃σL:(Nat->Bool)->AS,σL=λL=>⟨zC dst (λi=>(E i).s) O.g n L,Ae (λi=>(E i).nw) (λi=>(E i).dl) O.d n L⟩:=⟨_,rfl⟩;have bg:∀i o t,i<n->ops[i]? =some o->o.dst=some t->∀j o',j<n->ops[j]? =some o'->(j=i\/o'.dst≠some t)/\(t∈Ny ops o'->Anc ops j i\/Anc ops i j):=by
  intro i o t A D hd j o' C U;have B:=nE.1 br i (zd.2 (by omega));simp only[D,sM A,hd] at B;have G:=nE.1 B j (zd.2 C);simp only[U,bm,aGd,aEf] at G;obtain⟨M,h4⟩:=G;refine⟨M.imp (λh=>by simpa using h) (λh=>by simpa using h),λI=>?_⟩;rcases h4 with (h4 | h4) | h4
  ·simp at h4;exact absurd I h4
  ·exact .inl (ae _ _ h4)
  ·exact .inr (ae _ _ h4)
 have bh:∀{i:Nat} {o:aBa},¬i<n->ops[i]? =some o->∀{j:Nat},j<i->Anc ops i j:=by
  intro i o A D j C;have B0:i<ops.size:=by
   rcases jl i ops.size with h | h
   ·exact h
   ·simp[aEl h] at D
  have B:=nE.1 br i (zd.2 B0);simp only[D,nS A] at B;exact ae _ _ (nE.1 B j (zd.2 C))
 have bi:∀i o,i<ops.size->ops[i]? =some o->∀j∈Kg o,j<i:=λi o _ D j C=>Ec V9 D C;have b3:∀m o,n<=m->ops[m]? =some o->∀j∈Kg o,j<ops.size/\decide (j<m)=true:=by
  intro m o _ D j C;have B0:m<ops.size:=by
   rcases jl m ops.size with h | h
   ·exact h
   ·simp[aEl h] at D
  have:=bi m o B0 D j C;exact⟨by omega,by simpa using this⟩
 have bl:∀L a w,St F (σL L) a w->(∀i,i<n->L i=true)->St F σ1 a w:=by
  intro L a w h I6;rw[ad] at h;refine St.congr (λu=>?_) (λl=>?_) h
  ·rw[s1];exact Bw λi A _=>by rw[I6 i A]
  ·rw[d1];exact Bx λi A _=>by rw[I6 i A]
 have b4:∀L a w j o,IY ops L->St F (σL L) a w->j<n->ops[j]? =some o->L j=false->(∀i∈Kg o,L i=true)->∀K:aBe->aAf->Prop,
   (∀a' w',St F (σL λi=>i==j || L i) a' w'->K a' w')->wpOpIn F.fe 0 F.P ops (Exit.then (run F.fe F.P Q cs) Q) j K a w:=by
  intro L a w j o ac h C D aj bv K hK;have hA:=b2 j o C D;have bn:∀i,Anc ops j i->L i=true:=by
   intro i A;cases A with
   |one U hd=>rw[D] at U;cases U;exact bv _ hd
   |up U hd hr=>rw[D] at U;cases U;exact hr.down ac (bv _ hd)
  have af:∀i,L i=true->¬Anc ops i j:=λi A I=>by rw[I.down ac A] at aj;cases aj
  have bo:∀u∈Ny ops o,lk (σL L).g u=lk (zC dst (λi=>(E i).s) O.g n (λk=>decide (k<j))) u:=by
   intro u hu;rw[ad];refine Bw λi A hd=>?_;obtain⟨oi,an⟩:=bd i A;rw[J2 i oi A an] at hd;rcases (bg i oi u A an hd j o C D).2 hu with B | B
   ·have:=B.lt V9;rw[bn i B];simpa using this
   ·have G:=B.lt V9;have M:L i=false:=by
     cases R:L i with
     |false=>rfl
     |true=>exact absurd B (af i R)
    rw[M];simp;omega
  obtain⟨σ0,cq,a8,ex,a5,mj⟩:∃σ0:AS,σ0.g=zC dst (λi=>(E i).s) O.g n (λk=>decide (k<j))/\Loc ops o σ0 (σL L)/\∃ex:List Nat,(∀l∈ex,aF (σL L).d l=aF σ0.d l)/\
    ((GK ops σ0.g o true/\(E j).fr=(E j).nw/\(E j).dl=[]/\JO F o σ0 (E j).s (E j).nw)\/(GK ops σ0.g o false/\(E j).s= .top/\(E j).nw=[]/\(E j).dl=[])\/
     (GK ops σ0.g o true/\∀σ2,Loc ops o σ0 σ2->(∀l∈ex,aF σ2.d l=aF σ0.d l)->σ2.free (E j).fr=true->JM F o σ2 ⟨gL o.dst (E j).s σ2.g,(E j).nw++gS σ2.d (E j).dl⟩)):=by
   rcases hA.cs with⟨ex,kv,mj⟩|⟨V,aw,oe,th,ba⟩
   ·have hd:∀l∈(E j).rl,aF (σL L).d l=aF (Ae (λi=>(E i).nw) (λi=>(E i).dl) O.d n (λk=>decide (k<j))) l:=by
     intro l S;rw[ad];refine Bx λi A hx=>?_;by_cases T:i=j
     ·subst T;rw[aj];simp
     ·rcases be i j A C T with B | B | B
      ·have:=B.lt V9;rw[bn i B];simpa using this
      ·have G:=B.lt V9;have M:L i=false:=by
        cases R:L i with
        |false=>rfl
        |true=>exact absurd B (af i R)
       rw[M];simp;omega
      ·exact absurd S (ax B hx).1
    exact⟨⟨zC dst (λi=>(E i).s) O.g n (λk=>decide (k<j)),Ae (λi=>(E i).nw) (λi=>(E i).dl) O.d n (λk=>decide (k<j))⟩,rfl,⟨bo,λl S=>hd l (by rw[kv];exact aHe _ S)⟩,ex,λl S=>hd l (by rw[kv];exact List.mem_append_right _ S),mj⟩
   ·exact⟨⟨zC dst (λi=>(E i).s) O.g n (λk=>decide (k<j)),(σL L).d⟩,rfl,⟨bo,λl _=>rfl⟩,[],λl S=>rfl,.inl ⟨V,by rw[oe,aw],th,by rw[aw];exact ba _ (by rw[ad,al];exact hOK L)⟩⟩
  have bt:∀l,(aF (E j).nw l≠none\/l∈(E j).dl)->∀i,j<i->i<n->(i==j || L i)=true->aF (E i).nw l=none/\l∉(E i).dl:=by
   intro l S i ny A R;have T:i≠j:=(by omega);have b5:L i=true:=(by simpa[T] using R);rcases be j i C A (jj T) with B | B | B
   ·exact absurd B (af i b5)
   ·have:=B.lt V9;omega
   ·refine⟨?_,?_⟩
    ·cases hy:aF (E i).nw l with
     |none=>rfl
     |some e=>exact absurd rfl ((ax (l:=l) B S).2.2 _ (lH hy))
    ·exact(ax (l:=l) B S).2.1
  have ay:∀a' w',St F ⟨gL o.dst (E j).s (σL L).g,(E j).nw++gS (σL L).d (E j).dl⟩ a' w'->St F (σL λi=>i==j || L i) a' w':=by
   intro a' w' h';rw[ad] at h' ⊢;refine St.congr (λu=>?_) (λl=>?_) h'
   ·show lk (zC _ _ _ _ _) u=lk (gL _ _ (zC _ _ _ _ _)) u;rw[Jh];split
    ·rename_i hd;refine JU (by rw[J2 j o C D];exact hd) (by simp) C λi A T I=>?_;obtain⟨oi,an⟩:=bd i A;rw[J2 i oi A an] at I;rcases (bg j o u C D hd i oi A an).1 with B | B
     ·exact T B
     ·exact B I
    ·rename_i hd;refine Bw λi A I=>?_;by_cases T:i=j
     ·subst T;rw[J2 i o A D] at I;exact absurd I hd
     ·simp[T]
   ·show aF (Ae _ _ _ _ _) l=aF (_++gS (Ae _ _ _ _ _) _) l;rw[gB];cases hx:aF (E j).nw l with
    |some en=>exact JX hx (by simp) C (bt l (.inl (by rw[hx];simp)))
    |none=>
     simp only[Option.none_or];rw[qO];by_cases V:l∈(E j).dl
     ·rw[sM V];exact Ty hx V (by simp) C (bt l (.inr V))
     ·rw[nS V];refine Bx λi A I=>?_;by_cases T:i=j
      ·subst T;rcases I with I | I
       ·exact absurd hx I
       ·exact absurd I V
      ·simp[T]
  have az:AS.free (σL L) (E j).fr=true:=by
   refine nE.2 λx hx=>?_;have h0:=nE.1 yo j (zd.2 (by omega));rw[ao j C] at h0;have B:=nE.1 h0 x hx;simp only[bm,nE,aGd] at B;obtain⟨⟨B,G⟩,M⟩:=B;have h4:∀i,i<n->L i=true->(!(E i).s.E1.contains x.1)=true/\∀y∈(E i).nw,(!Nat.beq y.1 x.1)=true/\(!y.2.E1.contains x.1)=true:=by
    intro i A R;have h5:=M i (zd.2 (by omega));rw[ao i A] at h5;rcases h5 with (h5 | h5) | h5
    ·rw[gP h5,aj] at R;cases R
    ·exact absurd (ae _ _ h5) (af i R)
    ·simp only[bm,nE] at h5;exact h5
   rw[ad];simp only[bm,nE];refine⟨λy hy=>?_,λy hy=>?_⟩
   ·rcases Re hy with h5 |⟨i,A,R,e⟩
    ·exact B y h5
    ·rw[e];exact(h4 i A R).1
   ·rcases Rg hy with h5 |⟨i,A,R,hy⟩
    ·exact G y h5
    ·exact(h4 i A R).2 y hy
  have a0:∀b,GK ops σ0.g o b->Region.wanted o (yielded ops a.tmps)=b:=by
   intro b V;obtain⟨⟨ρ,I,I0⟩,_,_⟩:=h;exact yD (XM V a8) λt s _ ht=>I0 t s ht
  unfold wpOpIn;rw[D];rcases mj with⟨V,oe,th,ba⟩|⟨V,cb,aw,th⟩|⟨V,a1⟩
  ·simp only[a0 true V,K4];obtain⟨⟨ρ,I,I0⟩,hz,G6⟩:=h;refine(XL ba a8 ρ _ a w (aY I I0 _)).wpIn λv w' hr=>hK _ _ (ay _ _ ?_);rw[oe] at az;have:=St.put I I0 hz G6 az hA.ok hr;rw[th];cases hd:o.dst with
   |none=>rw[hd] at this;exact this
   |some t=>rw[hd] at this;exact this
  ·simp only[a0 false V,mu,M5];refine⟨λ_ _=>trivial,hK _ _ (ay _ _ ?_)⟩;obtain⟨⟨ρ,I,I0⟩,hz,G6⟩:=h;have:=St.put (s:= .top) (new:=[]) (v:=undef) (dst:=o.dst) I I0 hz G6 rfl hA.ok AX;rw[cb,aw,th];cases hd:o.dst with
   |none=>rw[hd] at this;exact this
   |some t=>rw[hd] at this;exact this
  ·simp only[a0 true V,K4];exact(a1 (σL L) a8 a5 az a w h).wpIn λv w' h'=>hK _ _ (ay _ _ h')
 have ap:∀(listed:Array Bool) (L:Nat->Bool),listed.size=ops.size->(∀i,i<ops.size->listed.getD i false=L i)->∀i d,i<ops.size->listed.getD i d=L i:=by
  intro listed L N X i d A;have:=X i A;rw[aDn] at this ⊢;rw[aD8 (by omega)] at this ⊢;simpa using this
 have fq:∀(listed:Array Bool) (L:Nat->Bool),listed.size=ops.size->(∀i,i<ops.size->listed.getD i false=L i)->∀i,i∈Region.ready .any ops listed↔
   (i<ops.size/\L i=false/\∀o,ops[i]? =some o->∀j∈Kg o,j<ops.size/\L j=true):=by
  intro listed L N X i;unfold Region.ready;rw[aFg,zd];constructor
  ·rintro⟨B,G⟩;simp only[bm,aEf] at G;obtain⟨G,M⟩:=G;rw[ap listed L N X i true B] at G;refine⟨B,G,λo D j C=>?_⟩;rw[D] at M;simp only[aEp,aFw] at M;obtain⟨e,he,a9⟩:=aG5.1 C;have b6:e∈o.after:=(by simpa using he);have:=aHu.1 M e b6;split at a9
   ·rename_i hb;cases a9;rw[hb] at this;simp only[vn,Bool.false_or] at this;rcases jl e.on ops.size with S | S
    ·rw[ap listed L N X _ _ S] at this;exact⟨S,this⟩
    ·rw[aDn,aEl (by omega)] at this;simp at this
   ·cases a9
  ·rintro⟨B,G,M⟩;refine⟨B,?_⟩;have D:ops[i]? =some ops[i]:=aD8 B;simp only[bm,aEf,ap listed L N X i true B,G,aHk,D,aEp,aFw];refine aHu.2 λe he=>?_;cases hb:Region.binds .any e with
   |false=>rfl
   |true=>
    have:=M _ D e.on (aG5.2 ⟨e,by simpa using he,by simp[hb]⟩);rw[ap listed L N X _ _ this.1,this.2];rfl
 have M6:∀(listed:Array Bool) (L:Nat->Bool) (j:Nat),listed.size=ops.size->j<ops.size->(∀i,i<ops.size->listed.getD i false=L i)->∀i,i<ops.size->(listed.setIfInBounds j true).getD i false=(i==j || L i):=by
  intro listed L j N C X i A;by_cases T:i=j
  ·subst T;simp only[aDn,aG6];simp[N,A]
  ·rw[getD_set_ne false (jj T),X i A];simp[T]
 have hB:∀ab m (listed:Array Bool) a w,listed.size=ops.size->(∀i,i<ops.size->listed.getD i false=decide (i<m))->IY ops (λi=>decide (i<m))->n<=m->m+ab=ops.size->
   wpListIn F.fe 0 F.P ops (Exit.then (run F.fe F.P Q cs) Q) (ops.toList.drop m) a w->wpAnyIn F.fe 0 F.P .any ops (Exit.then (run F.fe F.P Q cs) Q) ab listed a w:=by
  intro ab
  induction ab with
  |zero=>
   intro m listed a w N ak _ bx ca hw;refine⟨aH2.2 λi A=>?_,?_⟩
   ·obtain⟨B,G,_⟩:=(fq listed _ N ak i).1 A;have:i<m:=(by omega);simp[this] at G
   ·rw[aHs (by rw[rk];omega)] at hw;exact hw
  |succ ab ih=>
   intro m listed a w N ak ac bx ca hw;have aq:m<ops.size:=(by omega);have b7:ops[m]? =some ops[m]:=aD8 aq;have b8:∀i∈Region.ready .any ops listed,i=m:=by
    intro i A;obtain⟨B,G,M⟩:=(fq listed _ N ak i).1 A;have cj:m<=i:=(by simpa using G);rcases jl m i with B0 | xp
    ·exfalso;have D:ops[i]? =some ops[i]:=aD8 B;have D3:=bh (by omega) D B0;cases D3 with
     |one U C=>rw[D] at U;cases U;have:=(M _ D _ C).2;simp at this
     |up U C bb=>
      rw[D] at U;cases U;have a1:=(M _ D _ C).2;have:=bb.down ac a1;simp at this
    ·omega
   have qt:ops.toList.drop m=ops[m]::ops.toList.drop (m+1):=by
    rw[aGe (by rw[rk];exact aq)];simp
   rw[qt] at hw;refine⟨λhr=>?_,λi A=>?_⟩
   ·exfalso;have a2:m∉Region.ready .any ops listed:=(by rw[hr];simp);refine a2 ((fq listed _ N ak m).2 ⟨aq,by simp,λo D j C=>?_⟩);exact b3 m o bx D j C
   ·have:=b8 i A;subst this;obtain⟨_,_,M⟩:=(fq listed _ N ak i).1 A;have b9:IY ops (λk=>decide (k<i+1)):=by
     intro k o hk D j C;have hk:k<i+1:=(by simpa using hk);rcases jl k i with h | h
     ·have:=ac k o (by simpa using h) D j C;have:j<i:=(by simpa using this);simp;omega
     ·have:k=i:=(by omega);subst this;have:=(M o D j C).2;have:j<k:=(by simpa using this);simp;omega
    have bu:∀a w,wpListIn F.fe 0 F.P ops (Exit.then (run F.fe F.P Q cs) Q) (ops.toList.drop (i+1)) a w->wpAnyIn F.fe 0 F.P .any ops (Exit.then (run F.fe F.P Q cs) Q) ab (listed.setIfInBounds i true) a w:=by
     intro a w hw;refine ih (i+1) _ a w (by simpa using N) (λj C=>?_) b9 (by omega) (by omega) hw;rw[M6 listed _ i N aq ak j C];by_cases ny:j=i
     ·subst ny;simp
     ·have:(j<i+1)↔j<i:=(by omega);simp[ny,this]
    unfold wpOpIn;rw[b7];unfold wpListIn at hw;split at hw
    ·rename_i a6;simp only[a6,K4];exact Oper.wpIn_mono bu hw
    ·rename_i a6;simp only[a6];exact⟨hw.1,bu _ _ hw.2⟩
 have hA:∀ab (listed:Array Bool) (L:Nat->Bool) a w,listed.size=ops.size->(∀i,i<ops.size->listed.getD i false=L i)->IY ops L->(∀i,L i=true->i<n)->((List.range ops.size).filter λi=>L i).length+ab=ops.size->
   St F (σL L) a w->wpAnyIn F.fe 0 F.P .any ops (Exit.then (run F.fe F.P Q cs) Q) ab listed a w:=by
  intro ab
  induction ab with
  |zero=>
   intro listed L a w N X ac av bz h;have I6:∀i,i<ops.size->L i=true:=by
    have I:((List.range ops.size).filter λi=>L i).length=(List.range ops.size).length:=(by simpa using bz);have:=List.length_filter_eq_length_iff.1 I;exact λi A=>this i (zd.2 A)
   have ck:ops.size=n:=by
    rcases jl n ops.size with h | h
    ·have:=av n (I6 n h);omega
    ·omega
   have fa:l2=[]:=ya (by omega);refine⟨aH2.2 λi A=>?_,?_⟩
   ·obtain⟨B,G,_⟩:=(fq listed _ N X i).1 A;rw[I6 i B] at G;cases G
   ·have a3:=bl L a w h λi A=>I6 i (by omega);have:=ht (Exit.then (run F.fe F.P Q cs) Q) [] a w a3 (λa' w' h'=>wpListIn_nil (k a' w' h'));rw[fa] at this;exact this
  |succ ab ih=>
   intro listed L a w N X ac av bz h;by_cases I6:∀i,i<n->L i=true
   ·
    have a3:=bl L a w h I6;have hw:=ht (Exit.then (run F.fe F.P Q cs) Q) [] a w a3 (λa' w' h'=>wpListIn_nil (k a' w' h'));have a4:L=λi=>decide (i<n):=by
     funext i;cases R:L i with
     |true=>simp[av i R]
     |false=>
      rcases jl i n with h | h
      ·rw[I6 i h] at R;cases R
      ·simp;omega
    have co:((List.range ops.size).filter λi=>L i).length=n:=by
     rw[a4];have:ops.size=n+(ops.size - n):=(by omega);rw[this,List.range_add,aGf];rw[aGy.2 (by intro i A;simpa using zd.1 A),List.filter_eq_nil_iff.2 (by intro i A;simp at A ⊢;omega)];simp
    refine hB (ab+1) n listed a w N (λi A=>by rw[X i A,a4]) (by rw[<-a4];exact ac) (gC _) (by omega) ?_;have:ops.toList.drop n=l2:=(by rw[S,<-mi];simp);rw[this];simpa using hw
   ·refine⟨λhr=>?_,λi A=>?_⟩
    ·exfalso;have a5:∃i,i<n/\L i=false:=by
      refine Classical.byContradiction λaf=>I6 λi A=>?_;cases R:L i with
      |true=>rfl
      |false=>exact absurd ⟨i,A,R⟩ af
     obtain⟨i,⟨A,R⟩,ai⟩:∃i,(i<n/\L i=false)/\∀j,j<i->L j=true:=by
      obtain⟨i,A⟩:=a5
      induction i using Nat.strongRecOn with
      |_ i ch=>
       by_cases C:∃j,j<i/\L j=false
       ·obtain⟨j,B,G⟩:=C;exact ch j B ⟨by omega,G⟩
       ·refine⟨i,A,λj wo=>?_⟩;cases aj:L j with
        |true=>rfl
        |false=>exact absurd ⟨j,wo,aj⟩ C
     have a2:i∉Region.ready .any ops listed:=(by rw[hr];simp);refine a2 ((fq listed _ N X i).2 ⟨by omega,R,λo D j C=>?_⟩);have:=bi i o (by omega) D j C;exact⟨by omega,ai j this⟩
    ·obtain⟨B,G,M⟩:=(fq listed _ N X i).1 A;have D:ops[i]? =some ops[i]:=aD8 B;have T7:i<n:=by
      refine Classical.byContradiction λxp=>I6 λj C=>?_;have D3:=bh xp D (j:=j) (by omega);cases D3 with
      |one U C=>rw[D] at U;cases U;exact(M _ D _ C).2
      |up U C bb=>rw[D] at U;cases U;exact bb.down ac (M _ D _ C).2
     refine b4 L a w i _ ac h T7 D G (λj C=>(M _ D j C).2) _ λa' w' h'=>?_;refine ih _ _ a' w' (by simpa using N) (M6 listed L i N B X) ?_ ?_ ?_ h'
     ·intro q o hq b1 j C;by_cases au:q=i
      ·subst au;simp[(M o b1 j C).2]
      ·have:L q=true:=(by simpa[au] using hq);simp[ac q o this b1 j C]
     ·intro q hq;by_cases au:q=i
      ·omega
      ·exact av q (by simpa[au] using hq)
     ·have:((List.range ops.size).filter λq=>q==i || L q).length=((List.range ops.size).filter λq=>L q).length+1:=EE ops.size i L B G;omega
 refine wpIn_region_any hm ?_;refine hA ops.size _ (λ_=>false) a _ (by simp) (λi A=>by rw[aDn,Array.getElem?_replicate,sM A];rfl) (λ_ _ h=>by cases h) (λ_ h=>by cases h) (by rw[List.filter_eq_nil_iff.2 (λ_ _ h=>by cases h)];simp) ?_;obtain⟨⟨ρ,I,I0⟩,hz,G6⟩:=hs;have hb:Below w.heap.size w { w with drawn:=w.drawn+1 }:=(Below.refl _ _).drew;obtain⟨lj,hE⟩:=I.below hb;have e0:σL (λ_=>false)=O:=by
  rw[ad];show (⟨zC _ _ _ _ _,Ae _ _ _ _ _⟩:AS)=O;rw[Cx (m:=0) (aHd _) (λ_ _ _=>rfl),Cy (m:=0) (aHd _) (λ_ _ _=>rfl)];rfl
 rw[e0];exact⟨⟨ρ,lj,λt s zo=>Slot.j5 s _ (I0 t s zo) hE (λ_ _=>rfl)⟩,hz,G6⟩
section
variable {its:List E4}{d:Option Tmp}{x y:aAp}
theorem E9.store{T U:aAg}{l:List Slot}{i off n:Nat}(g:GK ops O.g ⟨none,.store U x y,ty,p,af,gd⟩ true)(hx:aV O.g x=some (.ptr i off))(he:aF O.d i=some (.box T l pb))(ho:jJ l off=some s0)(hy:aV O.g y=some s)(hp:s.plain=true)(N2:Nat.beq s.sz n=true)(Y4:Nat.beq s0.sz n=true)(hS:∀w,(sizeOf U).run F.P w= .ok n w)(k:E9 F ops OK os ⟨O.g,(i,.box T (jK l off s) pb)::O.d⟩ its O'):E9 F ops OK (⟨none,.store U x y,ty,p,af,gd⟩::os) O (⟨.top,[(i,.box T (jK l off s) pb)],[],Bv O.g ⟨none,.store U x y,ty,p,af,gd⟩,[]⟩::its) O':=
 .mv g rfl (λσ2 u _=>Kh ((u.ev (by simp[Op.operands])).trans hx) ((u.U4 (x:=x) (by simp[Op.operands]) hx (by simp[Slot.E1])).trans he) ho ((u.ev (by simp[Op.operands])).trans hy) hp N2 Y4 hS) k
theorem E9.storeAll{α:Type}{e:Fu α}{z:α}{T U:aAg}{l l':List Slot}{i:Nat}(g:GK ops O.g ⟨none,.store U x y,ty,p,af,gd⟩ true)(hx:aV O.g x=some (.ptr i 0))(he:aF O.d i=some (.box T l pb))(hl:Nat.beq (l.map Slot.sz).sum e.n=true)(hy:aV O.g y=some (.v e z))(U1:X7 l' e z)(hS:∀w,(sizeOf U).run F.P w= .ok e.n w)(k:E9 F ops OK os ⟨O.g,(i,.box T l' pb)::O.d⟩ its O'):E9 F ops OK (⟨none,.store U x y,ty,p,af,gd⟩::os) O (⟨.top,[(i,.box T l' pb)],[],Bv O.g ⟨none,.store U x y,ty,p,af,gd⟩,[]⟩::its) O':=
 .mv g rfl (λσ2 u _=>iT ((u.ev (by simp[Op.operands])).trans hx) ((u.U4 (x:=x) (by simp[Op.operands]) hx (by simp[Slot.E1])).trans he) hl ((u.ev (by simp[Op.operands])).trans hy) U1 hS) k
theorem E9.aM2{T U:aAg}{l l':List Slot}{i n:Nat}(g:GK ops O.g ⟨none,.store U x y,ty,p,af,gd⟩ true)(hx:aV O.g x=some (.ptr i 0))(he:aF O.d i=some (.box T l pb))(hl:(l.map Slot.sz).sum=n)(hy:aV O.g y=some (.agg l'))(U1:(l'.map Slot.sz).sum=n)(hnt:l'.all Slot.plain=true)(hS:∀w,(sizeOf U).run F.P w= .ok n w)(k:E9 F ops OK os ⟨O.g,(i,.box T l' pb)::O.d⟩ its O'):E9 F ops OK (⟨none,.store U x y,ty,p,af,gd⟩::os) O (⟨.top,[(i,.box T l' pb)],[],Bv O.g ⟨none,.store U x y,ty,p,af,gd⟩,[]⟩::its) O':=
 .mv g rfl (λσ2 u _=>Aq ((u.ev (by simp[Op.operands])).trans hx) ((u.U4 (x:=x) (by simp[Op.operands]) hx (by simp[Slot.E1])).trans he) hl ((u.ev (by simp[Op.operands])).trans hy) U1 hnt hS) k
theorem Src.loc{α:Type}{e:Fu α}{ys:List α}{o:aBa}{σ2:AS}(h:Src O y e ys)(hL:Loc ops o O σ2)(hm:y∈o.op.operands):Src σ2 y e ys:=λρ S a w K=>
 h ρ S a w ⟨K.low,λx u s A=>K.slot x u s (by
  have:x=y:=by simpa using u
  subst this;rw[hL.ev hm];exact A),λx u s A i B C D=>K.U4 x u s (by
   have:x=y:=by simpa using u
   subst this;rw[hL.ev hm];exact A) i B C (by
    have:x=y:=by simpa using u
    subst this;rw[hL.U4 hm A B];exact D)⟩
theorem E9.append{α:Type}{e:Fu α}{xs ys zs:List α}{T U:aAg}{ti:TypeInfo}{z:aA4}{i:Nat}(g:GK ops O.g ⟨d,.call ⟨.builtin .append,#[x,y],#[U,U]⟩,ty,p,af,gd⟩ true)(j:Nat)(ha:app xs ys=some zs)(hx:aV O.g x=some (.ref i))(he:aF O.d i=some (.arr T e xs))(hy:Src O y e ys)(hU:∀w,(underlying U).run F.P w= .ok (.slice T) w)(hI:∀w,(typeInfo T).run F.P w= .ok ti w)(hS:∀w,(sizeOf T).run F.P w= .ok e.n w)(hz:ti.zero=some z)(hzs:z.cells.size=e.n)(cx:Nat.ble ti.bytes 4096=true)(_:O.free [(j,.arr T e zs)]=true)(hd:eR d F.N=true)(k:E9 F ops OK os ⟨gL d (.ref j) O.g,(j,.arr T e zs)::rC O.d i⟩ its O'):E9 F ops OK (⟨d,.call ⟨.builtin .append,#[x,y],#[U,U]⟩,ty,p,af,gd⟩::os) O (⟨.ref j,[(j,.arr T e zs)],[(j,.arr T e zs)],Bv O.g ⟨d,.call ⟨.builtin .append,#[x,y],#[U,U]⟩,ty,p,af,gd⟩,[i]⟩::its) O':=
 .mv (nw:=[(j,.arr T e zs)]) (dl:=[i]) g hd (λσ2 u A=>oR j ha ((u.ev (by simp[Op.operands,Call.operands])).trans hx) ((u.U4 (x:=x) (by simp[Op.operands,Call.operands]) hx (by simp[Slot.E1])).trans he) (hy.loc u (by simp[Op.operands,Call.operands])) hU hI hS hz hzs cx A hd) k
end
end
section
variable {d:Option Tmp}{x y z:aAp}
theorem y9.cv{ρ:Nat->LV}{S:Nat->Prop}{w w':aAf}{v:aA4}{s s':Slot}{new Y3:List (Nat×j2)}(J0:∀k,S k->k<w.heap.size)(h:y9 ρ S w s new v w')(I8:∀F:w8,Sub F ⟨[(0,s)],new⟩ ⟨[(0,s')],Y3⟩)(D6:gH s' Y3=true):y9 ρ S w s' Y3 v w':=by
 obtain⟨ρ',h1,D,h3,G⟩:=h;let K:w8:=⟨default,1,S,w,λ_=>False,none,[]⟩
 have U:Core K new ρ' w':=⟨J0,D.size,λk hk _=>D.block k hk,D.os,D.tape,D.output,G.own,λi u b C A=>⟨.inl (G.fresh i u b C A).1,(G.fresh i u b C A).2⟩,G.inj,
  λi u b C A hS=>by have:=J0 b hS;have:=(G.fresh i u b C A).1;omega⟩
 let a:aBe:=⟨#[v],[]⟩
 have V:St K ⟨[(0,s)],new⟩ a w':=⟨⟨ρ',U,λt s1 E=>by
  simp only[lk] at E;cases A:Nat.beq 0 t with
  |true=>have:=gP A;subst this;simp at E;subst E;exact h3
  |false=>rw[A] at E;cases E⟩,rfl,rfl⟩
 obtain⟨⟨ρ2,M,L⟩,_,_⟩:=I8 K a w' V;have L:s'.ok ρ2 (Un S ρ2 Y3) w' v:=L 0 s' rfl;simp only[gH,bm,nE] at D6;let ρ3:Nat->LV:=λi=>if (aF Y3 i).isSome then ρ2 i else ρ i
 have B:∀i u,aF Y3 i=some u->ρ3 i=ρ2 i:=λi u h=>sM (by rw[h];rfl);have O:∀i,(aF Y3 i).isSome=true->ρ3 i=ρ2 i:=λi h=>sM h;have X:Un S ρ3 Y3=Un S ρ2 Y3:=by
  funext k;apply propext;constructor
  ·rintro (h |⟨i,u,I,N⟩)
   ·exact .inl h
   ·exact .inr ⟨i,u,I,by rw[<-B i u I];exact N⟩
  ·rintro (h |⟨i,u,I,N⟩)
   ·exact .inl h
   ·exact .inr ⟨i,u,I,by rw[B i u I];exact N⟩
 have P:Ext (Un S ρ2 Y3) (Un S ρ3 Y3) w' w':=⟨gC _,λk _ h=>⟨rfl,by rw[X];exact h⟩⟩;refine⟨ρ3,λi h=>nS (by rw[h];simp),D,Slot.j5 s' v L P (λi C=>congrArg LV.v (O i (D6.1 i C))),⟨λi u h=>?_,λi u b h A=>?_,λi j u Q b h R A T=>?_⟩⟩
 ·rw[B i u h];exact j2.j5 (M.own i u h) P (λq hq=>congrArg LV.v (O q (D6.2 _ (lH h) q hq))) (λ_ _=>rfl)
 ·rw[B i u h] at A;have:=M.fresh i u b h A;exact⟨this.1.resolve_right (λh=>h),this.2⟩
 ·rw[B i u h] at A;rw[B j Q R] at T;exact M.inj i j u Q b h R A T
theorem On{o:aBa}{s s':Slot}{new Y3:List (Nat×j2)}(h:JO F o O s new)(I8:∀F:w8,Sub F ⟨[(0,s)],new⟩ ⟨[(0,s')],Y3⟩)(D6:gH s' Y3=true):JO F o O s' Y3:=by
 intro ρ S a w K;exact(h ρ S a w K).mono λv A u=>u.cv K.low I8 D6
end
section
variable {d:Option Tmp}{x y z:aAp}{e:Fu α}{T:aAg}{i:Nat}
theorem K0.sub{xs ys:List α}{lo hi:Int}{S:Nat->Prop}{w:aAf}{v:aA4}{a:Option aBc}{cap:Nat}(hs:Sw.sub xs lo hi=some ys)(h:K0 T e xs S w v)(hv:v= .slice a xs.length cap):K0 T e ys S w (.slice (if cap=lo.toNat then a else a.map (·.add (lo.toNat*e.n))) (hi.toNat - lo.toNat) (cap - lo.toNat)):=by
 obtain⟨V,X,F,rfl⟩:=eB hs;rcases h with⟨rfl,rfl⟩|⟨b,u,A,cs,B,rfl,G,I,h6,h7,h8⟩
 ·simp only[Value.slice.injEq,ue] at hv;obtain⟨rfl,_,rfl⟩:=hv;have:lo.toNat=0:=by simp at F;omega
  have:hi.toNat=0:=by simp at F;omega
  refine .inl ⟨by simp,?_⟩;simp[*]
 ·simp only[Value.slice.injEq,aHk] at hv;obtain⟨rfl,rfl⟩:=hv;have D:=bG I;obtain⟨l,P⟩:∃l,l=lo.toNat:=⟨_,rfl⟩;obtain⟨m,Q⟩:∃m,m=hi.toNat:=⟨_,rfl⟩;rw[<-P,<-Q];have K:l<=m:=by omega
  have L:m<=xs.length:=by omega
  have M:l*e.n<=m*e.n:=aEb _ K;have R:m*e.n<=xs.length*e.n:=aEb _ L;have E:((xs.take m).drop l).length=m - l:=by rw[mr,Z1];omega
  by_cases C:u=l
  ·rw[sM C];have U:m - l=0:=(by omega);refine .inr ⟨b,u - l,A,[],cs++B,by rw[E],by simpa using G,?_,by omega,?_,by omega⟩
   ·have:(xs.take m).drop l=[]:=ya (by omega);rw[this];rfl
   ·rw[C,Nat.sub_self];simp
  ·rw[nS C];refine .inr ⟨b,u - l,A++cs.take (l*e.n),(cs.take (m*e.n)).drop (l*e.n),cs.drop (m*e.n)++B,?_,?_,uZ _ (rM _ I),by omega,?_,by omega⟩
   ·rw[E];simp only[aEp,Addr.add_lit,cM,Z1,D];rw[aGc (by omega)]
   ·rw[G];have:A++(cs++B)=A++cs.take (l*e.n)++((cs.take (m*e.n)).drop (l*e.n)++(cs.drop (m*e.n)++B)):=by
     have N:cs=cs.take (l*e.n)++((cs.take (m*e.n)).drop (l*e.n)++cs.drop (m*e.n)):=by
      have O:cs.take (l*e.n)=(cs.take (m*e.n)).take (l*e.n):=(by rw[List.take_take,aGc M]);rw[<-dt,O,sw,sw]
     conv=>lhs;rw[N]
     simp only[dt]
    rw[this]
   ·simp only[cM,mr,Z1,D];rw[aGc (by omega)];have:(u - l)*e.n+l*e.n=u*e.n:=(by rw[<-jk];congr 1;omega);omega
theorem BM{ρ:Nat->LV}{a:aBe}{w:aAf}{xs ys:List α}{lo hi:Int}{j:Nat}{ad:Option aBc}{cap:Nat}(hc:Core F O.d ρ w)(hs:∀t s,lk O.g t=some s->s.ok ρ (Un F.S0 ρ O.d) w (a.tmps.getD t undef))(hz:a.tmps.size=F.N)(G6:a.defers=F.df)(I8:Sw.sub xs lo hi=some ys)(he:aF O.d i=some (.arr T e xs))(hv:(ρ i).v= .slice ad xs.length cap)(hf:O.free [(j,.arr T e ys)]=true)(hd:eR d F.N=true):St F ⟨gL d (.ref j) O.g,(j,.arr T e ys)::rC O.d i⟩ (a.put d (.slice (if cap=lo.toNat then ad else ad.map (·.add (lo.toNat*e.n))) (hi.toNat - lo.toNat) (cap - lo.toNat))) w:=by
 have B:K0 T e xs (Un F.S0 ρ O.d) w (ρ i).v:=hc.own i _ he;have G:=B.sub I8 hv;refine BE (u:= .of _) hc hs hz G6 he hf hd (J5.refl _ _) (.inl ⟨_,_,_,rfl⟩) rfl (λb I=>?_) (λM ρ' K=>G.mono K λ_ _=>rfl);have C:mS (ρ i) b:=by
  left;rw[hv];have A:=nN.1 I;cases ad with
  |none=>simp[E2] at A
  |some q=>
   by_cases D:cap=lo.toNat
   ·rw[sM D] at A;exact A
   ·rw[nS D] at A;simp only[aEp,E2,W6] at A ⊢;rw[<-A];have E:q.spot=none:=by
     rcases B with⟨_,h⟩|⟨L,R,S,cs,U,h,_⟩<;>grind
    obtain⟨L,P,Q⟩:=q;simp only at E;subst E;rw[Addr.add_lit]
 exact⟨.inl C,(hc.fresh i _ b he C).2⟩
theorem RF{xs ys:List α}{hi:Int}{k':aA7}{E:aAg}(j:Nat)(hs:Sw.sub xs 0 hi=some ys)(hx:aV O.g x=some (.ref i))(he:aF O.d i=some (.arr T e xs))(hz:aV O.g z=some (.v (Fu.int k') hi))(hU:∀w,(underlying U).run F.P w= .ok (.slice E) w)(hE:∀w,(sizeOf E).run F.P w= .ok e.n w)(hf:O.free [(j,.arr T e ys)]=true)(hd:eR d F.N=true):JM F ⟨d,.slice U x none (some z) none,ty,p,af,gd⟩ O ⟨gL d (.ref j) O.g,(j,.arr T e ys)::rC O.d i⟩:=by
 rintro a w ⟨⟨ρ,u,A⟩,I,L⟩;have K:=aY u A (Op.slice U x none (some z) none).operands;obtain⟨M,C,D,Q,G,R⟩:=Tv K (x:=x) (by simp[Op.operands]) hx he;have B:=(dC K (x:=z) (by simp[Op.operands]) hz).1;obtain⟨S,s1,s2,_⟩:=eB hs;refine j6.value (w':=w) ?_ (BM u A I L hs he G hf hd);simp[execOp,Instr.sliceAt,Instr.slice,D,B,hU,hE,Dz s1 (show hi<=(C:Int) by omega)]
theorem RG{xs ys:List α}{lo:Int}{k:aA7}{E:aAg}(j:Nat)(hs:Sw.sub xs lo (xs.length:Int)=some ys)(hx:aV O.g x=some (.ref i))(he:aF O.d i=some (.arr T e xs))(hy:aV O.g y=some (.v (Fu.int k) lo))(hU:∀w,(underlying U).run F.P w= .ok (.slice E) w)(hE:∀w,(sizeOf E).run F.P w= .ok e.n w)(hf:O.free [(j,.arr T e ys)]=true)(hd:eR d F.N=true):JM F ⟨d,.slice U x (some y) none none,ty,p,af,gd⟩ O ⟨gL d (.ref j) O.g,(j,.arr T e ys)::rC O.d i⟩:=by
 rintro a w ⟨⟨ρ,u,A⟩,C,D⟩;have K:=aY u A (Op.slice U x (some y) none none).operands;obtain⟨I,L,M,Q,B,R⟩:=Tv K (x:=x) (by simp[Op.operands]) hx he;have G:=(dC K (x:=y) (by simp[Op.operands]) hy).1;obtain⟨S,s1,s2,_⟩:=eB hs;refine j6.value (w':=w) ?_ (BM u A C D hs he B hf hd)
 simp_all [execOp,Instr.sliceAt,Instr.slice,Ax]
theorem By{zc:Array aA4}{zv:α}{S:Nat->Prop}{w:aAf}(h:e.ok zv S w zc.toList):∀(n:Nat) (L:List aA4),L.length=n*e.n->(∀i,i<n*e.n->L[i]? =some zc[i % zc.size]!)->e.H8 (List.replicate n zv) S w L
 | 0,L,u,_=>by simp at u;subst u;rfl
 |n+1,L,u,A=>by
  have B:zc.size=e.n:=by have:=e.len h;simpa using this
  rw[jk,aGs] at u A;have C:L.take e.n=zc.toList:=by
   apply aF1
   grind [List.getElem?_take_of_lt,Nat.mod_eq_of_lt,List.getElem?_eq_none,List.length_take]
  refine⟨L.take e.n,L.drop e.n,(sw _ _).symm,by rw[C];exact h,By h n _ (by rw[mr];omega) λi D=>?_⟩;rw[List.getElem?_drop,A _ (by omega),B,Nat.add_mod_left]
theorem zE{zc:Array aA4}{n i:Nat}(h:i<n*zc.size):(Builtin.zeroCells zc n).toList[i]? =some zc[i % zc.size]! :=by
 grind [Builtin.zeroCells]
theorem Yg{xs ys:List α}{lo:Int}{z0:aA4}{zv:α}{E:aAg}(hs:Sw.sub xs lo (xs.length:Int)=some ys)(hx:aV O.g x=some (.sub i (lo.toNat*e.n) ((xs.length:Int).toNat - lo.toNat)))(he:aF O.d i=some (.arr T e xs))(hU:∀w,(underlying U).run F.P w= .ok (.slice E) w)(hZ:∀w,(zeroValue E).run F.P w= .ok z0 w)(hz:∀S w,e.ok zv S w z0.cells.toList):JM F ⟨none,.call ⟨.builtin .clear,#[x],#[U]⟩,ty,p,af,gd⟩ O ⟨O.g,(i,.arr T e (xs.take lo.toNat++List.replicate (xs.length - lo.toNat) zv))::O.d⟩:=by
 rintro a w ⟨⟨ρ,V,X⟩,N2,G6⟩;have K:=aY V X (Op.call ⟨.builtin .clear,#[x],#[U]⟩).operands;have ab:=K.slot x (by simp[Op.operands,Call.operands]) _ hx;simp only[Slot.ok] at ab;obtain⟨_,c,o,g1,Q,I⟩:=ab;have Z7:K0 T e xs (Un F.S0 ρ O.d) w (ρ i).v:=(K.U4 x (by simp[Op.operands,Call.operands]) _ hx i (by simp[Slot.E1]) _ he).1;obtain⟨s0,s1,_,_⟩:=eB hs;obtain⟨l,hl⟩:∃l,l=lo.toNat:=⟨_,rfl⟩;simp only[gR] at g1 Q I;rw[<-hl] at g1 Q I ⊢;have aj:l<=xs.length:=by omega
 have done:∀w',(execOp a.eval ⟨none,.call ⟨.builtin .clear,#[x],#[U]⟩,ty,p,af,gd⟩).run F.P w= .ok (.value (.tuple #[])) w'->
   (∃b,mS (ρ i) b/\ff b w w'/\(Ext (Un F.S0 ρ O.d) (Un F.S0 ρ O.d) w w'->(j2.arr T e (xs.take l++List.replicate (xs.length - l) zv)).ok ρ (Un F.S0 ρ O.d) w' (ρ i)))\/(w'=w/\xs.take l++List.replicate (xs.length - l) zv=xs)->
   j6 F.P ⟨none,.call ⟨.builtin .clear,#[x],#[U]⟩,ty,p,af,gd⟩ a w λv w'=>St F ⟨O.g,(i,.arr T e (xs.take l++List.replicate (xs.length - l) zv))::O.d⟩ (a.put none v) w':=by
  intro w' hr h;refine j6.value hr ?_;rcases h with⟨b,h1,h2,D⟩|⟨rfl,h2⟩
  ·obtain⟨q1,q2⟩:=V.gv he h1 h2 D;exact⟨⟨ρ,q1,λt s M=>Slot.j5 s _ (X t s M) q2 (λ_ _=>rfl)⟩,N2,G6⟩
  ·rw[h2];refine St.congr (O:=O) (λ_=>rfl) (λq=>?_) ⟨⟨ρ,V,X⟩,N2,G6⟩;rw[bA];split
   ·rename_i h;subst h;exact he.symm
   ·rfl
 by_cases B:xs.length - l=0
 ·refine done w ?_ (.inr ⟨rfl,?_⟩)
  ·have A:∃q,a.eval x= .slice q 0 c:=by
    rw[I,B];rcases Z7 with⟨_,h⟩|⟨b,ae,u,cs,post,h,_⟩<;>rw[h]<;>exact⟨_,rfl⟩
   obtain⟨q,A⟩:=A;have C:(Builtin.clear_ #[U] ty #[.slice q 0 c]).run F.P w= .ok (.tuple #[]) w:=by
    cases q<;>simp[Builtin.clear_,hU]
   simp[execOp,resolve,invoke,builtin,A,C]
  ·have:l=xs.length:=(by omega);rw[B,this];simp
 ·have ho:o=l*e.n:=Q.resolve_right B;subst ho;rcases Z7 with⟨rfl,h⟩|⟨b,ae,u,cs,post,D,h4,h5,h6,h7,h8⟩
  ·simp at B
  ·have C:=bG h5;have A:a.eval x= .slice (some ⟨b,u.length+l*e.n,none⟩) (xs.length - l) c:=(by rw[I,D];rfl);obtain⟨n,ai⟩:∃n,n=xs.length - l:=⟨_,rfl⟩;rw[<-ai] at A B done ⊢;have ac:z0.cells.size=e.n:=(by have:=e.len (hz (λ_=>False) w);simpa using this);obtain⟨news,R⟩:∃news,news=(Builtin.zeroCells z0.cells n).toList:=⟨_,rfl⟩;have G:news.length=n*e.n:=(by rw[R,rk,size_zeroCells,ac]);have ad:∀S w,e.H8 (List.replicate n zv) S w news:=λS w=>By (hz S w) n news G λi hi=>by rw[R];exact zE (by rw[ac];exact hi)
   have X1:=qK (ad (λ_=>False) w);have ak:l*e.n+n*e.n=cs.length:=(by rw[C,<-jk];congr 1;omega);have e1:u++(cs++post)=(u++cs.take (l*e.n))++(cs.drop (l*e.n)++post):=by
    rw[dt,<-dt (cs.take _),sw]
   have lf:u.length+l*e.n+news.length<=(u++(cs++post)).length:=(by simp only[cM,G];omega);have L:=run_storeCells_at F.P b (u.length+l*e.n) T news 0 (u++(cs++post)).toArray w h4 (by simpa using lf) X1;have M:(u++(cs++post)).take (u.length+l*e.n)=u++cs.take (l*e.n):=by
    have N:(u++cs.take (l*e.n)).length=u.length+l*e.n:=(by rw[cM,Z1];omega);rw[e1,<-N];exact aGz
   have qt:(u++(cs++post)).drop (u.length+l*e.n+news.length)=post:=by
    have N:(u++cs).length=u.length+l*e.n+news.length:=(by rw[cM,G];omega);rw[<-dt,<-N];exact aGa
   simp only[aHq,List.toList_toArray] at L;rw[M,qt] at L;refine done (w.setRow b (u++cs.take (l*e.n)++news++post).toArray) ?_ (.inl ⟨b,.inl (by rw[D];rfl),ff.setRow w b _,λhE=> .inr ⟨b,ae,u,cs.take (l*e.n)++news,post,?_,?_,fG (Fu.q8 (rM l h5) hE) (ad _ _),?_,?_,?_⟩⟩)
   ·have C:(Builtin.clear_ #[U] ty #[.slice (some ⟨b,u.length+l*e.n,none⟩) n c]).run F.P w= .ok (.tuple #[]) (w.setRow b (u++cs.take (l*e.n)++news++post).toArray):=by
     obtain⟨n',rfl⟩:∃n',n=n'+1:=⟨n - 1,by omega⟩;simp[Builtin.clear_,hU,hZ,<-R,L]
    simp[execOp,resolve,invoke,builtin,A,C]
   ·rw[D];simp only[cM,Z1,aD6];congr 1;omega
   ·have:=setRow_heap w b _ (u++cs.take (l*e.n)++news++post).toArray T _ h4;rw[this];congr 3;simp
   ·simp only[cM,Z1,aD6];omega
   ·simp only[cM,Z1,G];rw[aGc (by omega)];omega
   ·simp only[cM,Z1,aD6];omega
end
def Fu.we{α:Type}(e:Fu α):Fu (Option α) where
 n:=1
 agg:=false
 ok x S w cs:=match x with
  |none=>cs=[.pointer none]
  |some z=>∃b u A,cs=[.pointer (some ⟨b,u,none⟩)]/\b<w.heap.size/\¬S b/\r8 w b u A/\e.ok z S w A
 len {x _ _ _} h:=by
  cases x with
  |none=>rw[h];rfl
  |some z=>obtain⟨_,_,_,h,_⟩:=h;rw[h];rfl
 one _:=rfl
 cell {x _ _ _} h c hc:=by
  cases x with
  |none=>rw[h] at hc;simp at hc;subst hc;rfl
  |some z=>obtain⟨_,_,_,h,_⟩:=h;rw[h] at hc;simp at hc;subst hc;rfl
 mono {x _ _ _ _ _} h k:=by
  cases x with
  |none=>exact h
  |some z=>
   obtain⟨b,u,A,D,B,C,E,F⟩:=h;exact⟨b,u,A,D,gn B k.size,(k.eh b B C).2,E.mono B C k,e.mono F k⟩
theorem zF{α:Type}{e:Fu α}{S w u}:(Fu.we e).val none S w u↔u= .pointer none:=by
 constructor
 ·rintro⟨cs,h,rfl⟩;subst h;rfl
 ·rintro rfl;exact⟨[.pointer none],rfl,rfl⟩
theorem vS{α:Type}{e:Fu α}{z:α}{S w u}:(Fu.we e).val (some z) S w u↔∃b off ds,u= .pointer (some ⟨b,off,none⟩)/\b<w.heap.size/\¬S b/\r8 w b off ds/\e.ok z S w ds:=by
 constructor
 ·rintro⟨cs,⟨b,off,ds,rfl,h⟩,rfl⟩;exact⟨b,off,ds,rfl,h⟩
 ·rintro⟨b,off,ds,rfl,h⟩;exact⟨[.pointer (some ⟨b,off,none⟩)],⟨b,off,ds,rfl,h⟩,rfl⟩
section
variable {d:Option Tmp}{x y z:aAp}{e:Fu α}
theorem Z.we(e:Fu α):∀S w,(Fu.we e).ok none S w [.pointer none]:=λ_ _=>rfl
theorem RH{v:α}{ρ S w u}(h:(Slot.B8 e v).ok ρ S w u):(Slot.v (Fu.we e) (some v)).ok ρ S w u:=vS.2 h
theorem Rh{o:aBa}{v:α}{new:List (Nat×j2)}(h:JO F o O (.B8 e v) new):JO F o O (.v (Fu.we e) (some v)) new:=by
 intro ρ S a w K;refine(h ρ S a w K).mono ?_;rintro u E ⟨ρ',A,B,C,D⟩;exact⟨ρ',A,B,RH C,D⟩
theorem iF(e:Fu α):JO F ⟨d,.assign (.const (.pointer none)),ty,p,af,gd⟩ O (.v (Fu.we e) none) []:=by
 intro ρ S a w K;exact j6.value (v:= .pointer none) (rfl) (y9.same (zF.2 rfl))
theorem EY{v:Option α}{v':α}(hv:v=some v')(hx:aV O.g x=some (.v (Fu.we e) v)):JO F ⟨d,.nilCheck x,ty,p,af,gd⟩ O (.B8 e v') []:=by
 subst hv;intro ρ S a w K;have h:=K.slot x (by simp[Op.operands]) _ hx;obtain⟨b,A,B,u,C⟩:=vS.1 h;refine j6.value (w':=w) (v:=a.eval x) ?_ (y9.same (by grind [Slot.ok]));simp[execOp,u]
theorem tJ{P:aA5}(w:aAf)(T E:aAg)(ad:Option aBc)(hT:∀w,(underlying T).run P w= .ok (.pointer E) w):(Op.equal T (.pointer ad) (.pointer none)).run P w= .ok ad.isNone w:=by
 unfold Op.equal Op.maxDepth Op.equalIn;cases ad<;>simp[hT]
theorem RI{v:Option α}{T T' E:aAg}(hx:aV O.g x=some (.v (Fu.we e) v))(hT:∀w,(underlying T).run F.P w= .ok (.pointer E) w):JO F ⟨d,.binOp .eql T x (.const (.pointer none)) T',ty,p,af,gd⟩ O (.v Fu.bool v.isNone) []:=by
 intro ρ S a w K;have h:=K.slot x (by simp[Op.operands]) _ hx;obtain⟨u,A,C⟩:∃u,a.eval x= .pointer u/\u.isNone=v.isNone:=by
  cases v with
  |none=>exact⟨none,zF.1 h,rfl⟩
  |some z=>obtain⟨b,D,G,A,_⟩:=vS.1 h;grind
 have B:=tJ (P:=F.P) w T E u hT;refine j6.value (w':=w) ?_ (y9.same (iA _ ρ S w));rw[<-C];exact Ip (r:=u.isNone) (.inl ⟨rfl,rfl⟩) A rfl (by intros;simp) (by intros;simp) (by intros;simp) (by intros;simp) (rfl) B
theorem RJ{v:Option α}{T T' E:aAg}(hx:aV O.g x=some (.v (Fu.we e) v))(hT:∀w,(underlying T).run F.P w= .ok (.pointer E) w):JO F ⟨d,.binOp .neq T x (.const (.pointer none)) T',ty,p,af,gd⟩ O (.v Fu.bool v.isSome) []:=by
 intro ρ S a w K;have h:=K.slot x (by simp[Op.operands]) _ hx;obtain⟨u,A,C⟩:∃u,a.eval x= .pointer u/\(!u.isNone)=v.isSome:=by
  cases v with
  |none=>exact⟨none,zF.1 h,rfl⟩
  |some z=>obtain⟨b,D,G,A,_⟩:=vS.1 h;grind
 have B:=tJ (P:=F.P) w T E u hT;refine j6.value (w':=w) ?_ (y9.same (iA _ ρ S w));rw[<-C];exact Ip (r:=u.isNone) (.inr ⟨rfl,rfl⟩) A rfl (by intros;simp) (by intros;simp) (by intros;simp) (by intros;simp) (rfl) B
theorem BN{zs:List α}{v:α}{U E:aAg}{len:Nat}{k:aA7}{n:Int}(hz:Sw.idx zs n=some v)(hx:aV O.g x=some (.v (Fu.arr len e) zs))(hy:aV O.g y=some (.v (Fu.int k) n))(hU:∀w,(underlying U).run F.P w= .ok (.array len E) w)(hE:∀w,(sizeOf E).run F.P w= .ok e.n w)(hA:∀w,(isAgg E).run F.P w= .ok e.agg w):JO F ⟨d,.index U x y,ty,p,af,gd⟩ O (.v e v) []:=by
 intro ρ S a w K;have h:=K.slot x (by simp[Op.operands]) _ hx;simp only[Slot.ok] at h;obtain⟨cs,⟨R,C⟩,D⟩:=h;have M:=(dC K (x:=y) (by simp[Op.operands]) hy).1;obtain⟨G,T,I⟩:=iX hz;obtain⟨u,c,b,rfl,L,A,_⟩:=nL C I;have B:=JV (P:=F.P) (w:=w) (U:=E) (a:=u) (c:=c) (e:=b) hA hE (e.len A) e.one;refine j6.value (w':=w) (v:=e.pk c) ?_ (y9.same (by simp only[Slot.ok];exact⟨c,A,rfl⟩));have N:0<=n/\n<(len:Int):=⟨G,by omega⟩;rw[L] at B;have Q:a.eval x= .agg (u++(c++b)).toArray:=D
 simp_all [execOp,Instr.index,asIntOf,Fu.pk]
theorem N0.aZ1{k:Nat}{ps:List (Nat×aAp)}{zs:List α}(h:N0 O e k ps zs){ρ S a w}{ys:Array aAp}(zm:∀x∈ps.map (·.2),x∈ys)(K:M4 O ys ρ S a w):∀pre rest tl:List aA4,pre.length=k*e.n->rest.length=ps.length*e.n->∃ds:List aA4,Instr.fill (λi=>some (i*e.n,e.n)) (pre++(rest++tl)).toArray (ps.map λq=>(q.1,a.eval q.2))=some (pre++(ds++tl)).toArray/\e.H8 zs S w ds:=by
 induction h with
 |nil=>intro pre rest tl D E;simp at E;subst E;exact⟨[],rfl,rfl⟩
 |cons D _ M=>
  rename_i k x z ps zs _;intro pre rest tl F G
  have C:=D ρ S a w ⟨K.low,λy u s h=>K.slot y (zm y (by
   have:y=x:=by simpa using u
   subst this;simp)) s h,λy u s h=>K.U4 y ((by grind)) s h⟩
  simp only[mu,M5] at C;have A:=pV (s:= .v e z) rfl C;simp only[Slot.I2] at A;have B:=e.len A;simp only[qf,jk,aGs] at G;obtain⟨ds,I,L⟩:=M (λy u=>zm y (by simp only[V0,sK];exact .inr u)) (pre++(a.eval x).cells.toList) (rest.drop e.n) tl (by rw[cM,F,B,jk,aGs]) (by rw[mr];omega);refine⟨(a.eval x).cells.toList++ds,?_,⟨_,_,rfl,A,L⟩⟩;rw[V0,Bq (a:=pre) (c:=rest.take e.n) (e:=rest.drop e.n++tl) rfl (by simp only[rk] at B;exact B) (by simp only[List.toList_toArray];rw[<-dt (rest.take _),sw]) F (by rw[Z1];omega)];simpa[dt] using I
theorem Ku{T E:aAg}{n:Nat}{ti tE:TypeInfo}{z:aA4}{zv:α}{ps:List (Nat×aAp)}{zs:List α}(hI:∀w,(typeInfo T).run F.P w= .ok ti w)(hU:∀w,(underlying T).run F.P w= .ok (.array n E) w)(hE:∀w,(typeInfo E).run F.P w= .ok tE w)(hs:tE.size=e.n)(hz:ti.zero=some z)(yj:∀S w,(Fu.arr n e).ok (List.replicate n zv) S w z.cells.toList)(hl:ps.length=zs.length)(hle:Nat.ble zs.length n=true)(he:N0 O e 0 ps zs):JO F ⟨d,.build T ps.toArray,ty,p,af,gd⟩ O (.v (Fu.arr n e) (zs++List.replicate (n - zs.length) zv)) []:=by
 intro ρ S a w K;have hle:=gQ hle;obtain⟨M,A⟩:=yj S w;have B:=bG A;simp only[aD6] at B;have L:zs.length*e.n<=n*e.n:=aEb _ hle;obtain⟨D,G,I⟩:=he.aZ1 (ys:=(Op.build T ps.toArray).operands) (by intro x u;simp[Op.operands] at u ⊢;exact u) K [] (z.cells.toList.take (zs.length*e.n)) (z.cells.toList.drop (zs.length*e.n)) (by simp) (by rw[Z1,hl];omega);rw[sw] at G;have C:e.H8 (List.replicate (n - zs.length) zv) S w (z.cells.toList.drop (zs.length*e.n)):=by
  have:=uZ zs.length A
  rwa [List.drop_replicate] at this
 refine j6.value (w':=w) (v:= .agg (D++z.cells.toList.drop (zs.length*e.n)).toArray) ?_ (y9.same (by simp only[Slot.ok];exact⟨_,⟨by simp only[cM,aD6];omega,fG I C⟩,rfl⟩))
 simp_all [Program.built,uT,oB,run_build,execOp,aGp]
end
inductive sx (α:Type) where
 |rows (xs:List α)
 |any (n:Nat)
def sx.ok{α:Type}(e:Fu α)(S:Nat->Prop)(w:aAf):sx α->List aA4->Prop | .rows xs,cs=>e.H8 xs S w cs | .any n,cs=>cs.length=n
def sx.H8{α:Type}(e:Fu α)(S:Nat->Prop)(w:aAf):List (sx α)->List aA4->Prop | [],cs=>cs=[] | s::r,cs=>∃c d,cs=c++d/\s.ok e S w c/\sx.H8 e S w r d
section
variable {e:Fu α}{S S':Nat->Prop}{w w':aAf}
theorem sx.j5{s:sx α}{cs}(h:s.ok e S w cs)(k:Ext S S' w w'):s.ok e S' w' cs:=by
 cases s with
 |rows xs=>exact Fu.q8 h k
 |any n=>exact h
theorem sx.q8:∀{q:List (sx α)} {cs},sx.H8 e S w q cs->Ext S S' w w'->sx.H8 e S' w' q cs | [],_,h,_=>h | _::_,_,⟨c,d,h1,h2,h3⟩,k=>⟨c,d,h1,sx.j5 h2 k,sx.q8 h3 k⟩
end
def DE.ju{α:Type}(T:aAg)(e:Fu α)(b:Nat):DE (List (sx α)) where
 ok q S w u _:=u.v= .pointer (some ⟨b,0,none⟩)/\∃cs,w.heap[b]? =some (.cells cs.toArray T (0,0))/\sx.H8 e S w q cs
 mono:=by
  rintro q S F w G u l ⟨A,cs,B,C⟩ D E;exact⟨A,cs,by rw[E b (.inl (by rw[A];rfl))];exact B,sx.q8 C D⟩
section
variable {d:Option Tmp}{x y z:aAp}{e:Fu α}{T:aAg}{i b:Nat}
theorem Oo{cs:List aBb}{Q:aBd->aBe->aAf->Prop}{t:Nat}{g':List (Nat×Slot)}{A B:List α}(hσ:O.d=[(i,.arr T e (A++B))])(hB:B≠ [])(hx:lk O.g t=some (.ref i))(hg:uf O.g g')(hl:g'.all (λy=>y.2.E1.isEmpty)=true)(k:∀b p q c,(A++B).length<=c->c*e.n<=(A++B).length*e.n+q->(A++B).length<=140737488355328->W F cs ⟨(t,.T9 i p 0 (A++B).length c)::g',[(i,.dp (DE.ju T e b) [.any p,.rows A,.rows B,.any q] [])]⟩ Q):W F cs O Q:=by
 obtain⟨g,dd⟩:=O;simp only at hσ hx hg;subst hσ;rintro a w ⟨⟨ρ,R,S⟩,hz,G6⟩;have N:aF [(i,j2.arr T e (A++B))] i=some (.arr T e (A++B)):=by simp[aF]
 have X:K0 T e (A++B) (Un F.S0 ρ [(i,.arr T e (A++B))]) w (ρ i).v:=R.own i _ N;rcases X with⟨h,_⟩|⟨b,af,M,aj,I,U,h2,V,h4,h5,h6⟩
 ·simp at h;exact absurd h.2 hB
 have D6:=bG V;refine k b M.length I.length af h4 (by omega) h6 a w ?_;let ρ':Nat->LV:=λl=>if l=i then .of (.pointer (some ⟨b,0,none⟩)) else ρ l
 have K:ρ' i= .of (.pointer (some ⟨b,0,none⟩)):=sM rfl;have L:∀l C,aF [(i,j2.dp (DE.ju T e b) [.any M.length,.rows A,.rows B,.any I.length] [])] l=some C->l=i:=by
  intro l C h;rw[bA] at h;split at h
  ·rename_i D;exact D.symm
  ·cases h
 have ai:∀l C,aF [(i,j2.arr T e (A++B))] l=some C->l=i:=by
  intro l C h;rw[bA] at h;split at h
  ·rename_i D;exact D.symm
  ·cases h
 have ab:∀k,mS (ρ' i) k->mS (ρ i) k:=by
  intro k E;rw[K] at E;have:=nN.1 E;left;rw[U];exact this
 obtain⟨q1,q2⟩:=R.aJn (d':=[(i,.dp (DE.ju T e b) [.any M.length,.rows A,.rows B,.any I.length] [])]) (ρ':=ρ') (λl C bb h E=>by
   have ac:=L l C h;rw[ac] at E
   exact⟨i,_,N,ab bb E⟩) (λl l' C ae k h h' _ _=>by rw[L l C h,L l' ae h']) (λhE l C h=>by
   obtain rfl:=L l C h;simp only[aF,aHt,fE,W6] at h;subst h;rw[K];obtain⟨ca,cb,rfl,k1,k2⟩:=xP (Fu.q8 V hE)
   exact⟨rfl,_,h2,M,_,rfl,rfl,ca,_,by rw[dt],k1,cb,I,rfl,k2,I,[],by simp,rfl,rfl⟩)
 refine⟨⟨ρ',q1,λu s G=>?_⟩,hz,G6⟩;rw[kF] at G;split at G
 ·rename_i D;subst D;cases G;have:=S t _ hx;simp only[Slot.ok] at this ⊢;refine⟨⟨b,by rw[K];rfl⟩,?_⟩;rw[this.2,U,K];rfl
 ·have ad:=hg.spec u s G;refine Slot.j5 s _ (S u s ad) q2 λl P=>?_;have:=nE.1 hl _ (Jz G);have:s.E1=[]:=by simpa using this
  rw[this] at P;cases P
theorem zG{t p n c q:Nat}{A V B:List α}(hn:n=(A++(V++B)).length)(hnc:n<=c)(hcq:c*e.n<=n*e.n+q)(N2:n<=140737488355328){g:List (Nat×Slot)}(hx:lk g t=some (.T9 i p 0 n c)):Sub F ⟨g,[(i,.dp (DE.ju T e b) [.any p,.rows A,.rows V,.rows B,.any q] [])]⟩ ⟨[(t,.ref i)],[(i,.arr T e (A++(V++B)))]⟩:=by
 rintro a w ⟨⟨ρ,hc,hs⟩,hz,G6⟩;have R:aF [(i,j2.dp (DE.ju T e b) [.any p,.rows A,.rows V,.rows B,.any q] [])] i=some (.dp (DE.ju T e b) [.any p,.rows A,.rows V,.rows B,.any q] []):=by simp[aF]
 obtain⟨G,cs,L,M⟩:=hc.own i _ R;obtain⟨O,_,rfl,rfl,P,_,rfl,k1,cv,_,rfl,k2,Q,_,rfl,k3,ad,_,rfl,rfl,rfl⟩:=M;let ρ':Nat->LV:=λl=>if l=i then .of (.slice (some ⟨b,O.length,none⟩) n c) else ρ l
 have D:ρ' i= .of (.slice (some ⟨b,O.length,none⟩) n c):=sM rfl;have E:∀l C,aF [(i,j2.arr T e (A++(V++B)))] l=some C->l=i:=by
  intro l C h;rw[bA] at h;split at h
  ·rename_i K;exact K.symm
  ·cases h
 have U:∀{S w},e.H8 A S w P->e.H8 V S w cv->e.H8 B S w Q->e.H8 (A++(V++B)) S w (P++(cv++Q)):=λG L M=>fG G (fG L M);have ab:=bG (U k1 k2 k3)
 obtain⟨q1,q2⟩:=hc.aJn (d':=[(i,.arr T e (A++(V++B)))]) (ρ':=ρ') (λl C k h X=>by
   obtain rfl:=E l C h;refine⟨l,_,R,?_⟩;rw[D] at X;have:=nN.1 X
   left;rw[G];exact this) (λl l' C ac k h h' _ _=>by rw[E l C h,E l' ac h']) (λN l C h=>by
   obtain rfl:=E l C h;simp only[aF,aHt,fE,W6] at h;subst h;rw[D];refine .inr ⟨b,c,O,P++(cv++Q),ad,by rw[hn];rfl,?_,U (Fu.q8 k1 N) (Fu.q8 k2 N) (Fu.q8 k3 N),by omega,?_,by omega⟩
   ·rw[L];simp[dt]
   ·rw[ab,<-hn];exact hcq)
 refine⟨⟨ρ',q1,λu s I=>?_⟩,hz,G6⟩;rw[kF] at I;split at I
 ·rename_i K;subst K;cases I;have:=hs t _ hx;simp only[Slot.ok] at this ⊢;refine⟨.inl ⟨_,_,_,by rw[D];rfl⟩,?_⟩;rw[this.2,G,D];rfl
 ·cases I
theorem qP{ρ:Nat->LV}{S:Nat->Prop}{w:aAf}{o n c:Nat}{v:aA4}(h:(Slot.T9 i o 0 n c).ok ρ S w v):∃b,(ρ i).v= .pointer (some ⟨b,0,none⟩)/\v= .slice (some ⟨b,o,none⟩) n c:=by
 obtain⟨⟨b,u⟩,A⟩:=h;exact⟨b,u,by rw[A,u];rfl⟩
theorem Kv{ρ:Nat->LV}{S:Nat->Prop}{w:aAf}{o n c b:Nat}(h:(ρ i).v= .pointer (some ⟨b,0,none⟩)):(Slot.T9 i o 0 n c).ok ρ S w (.slice (some ⟨b,o,none⟩) n c):=⟨⟨b,h⟩,by rw[h];rfl⟩
theorem yH{o n c m:Nat}{lo:Int}{k:aA7}{E:aAg}(o' n' c':Nat)(hlo:lo=(m:Int))(hm:m<=n)(hmc:m<c)(ho:o'=o+m*e.n)(fu:n'=n - m)(lj:c'=c - m)(hx:aV O.g x=some (.T9 i o 0 n c))(hy:aV O.g y=some (.v (Fu.int k) lo))(hU:∀w,(underlying U).run F.P w= .ok (.slice E) w)(hE:∀w,(sizeOf E).run F.P w= .ok e.n w):JO F ⟨d,.slice U x (some y) none none,ty,p,af,gd⟩ O (.T9 i o' 0 n' c') []:=by
 subst hlo ho fu lj;intro ρ S a w K;obtain⟨b,u,D⟩:=qP (K.slot x (by simp[Op.operands]) _ hx);have A:=(dC K (x:=y) (by simp[Op.operands]) hy).1;refine j6.value (w':=w) ?_ (y9.same (Kv u));have B:=Ax (P:=F.P) (w:=w) (len:=n) (cap:=c) (k:=k) (lo:=(m:Int)) (by omega) (by omega);have C:¬(c=m):=by omega
 simp_all [execOp,Instr.sliceAt,Instr.slice,Addr.add_lit]
theorem Bz{o n c m:Nat}{hi:Int}{k:aA7}{E:aAg}(n':Nat)(hhi:hi=(m:Int))(hm:m<=c)(fu:n'=m)(hx:aV O.g x=some (.T9 i o 0 n c))(hy:aV O.g y=some (.v (Fu.int k) hi))(hU:∀w,(underlying U).run F.P w= .ok (.slice E) w)(hE:∀w,(sizeOf E).run F.P w= .ok e.n w):JO F ⟨d,.slice U x none (some y) none,ty,p,af,gd⟩ O (.T9 i o 0 n' c) []:=by
 intro ρ S a w K;obtain⟨b,u,B⟩:=qP (K.slot x (by simp[Op.operands]) _ hx);have A:=(dC K (by simp[Op.operands]) hy).1;refine j6.value ?_ (y9.same (Kv u))
 simp_all [Dz,Addr.add,Addr.add_lit,execOp,Instr.sliceAt,Instr.slice]
theorem Tz{ρ:Nat->LV}{w:aAf}{q:List (sx α)}(hc:Core F O.d ρ w)(he:aF O.d i=some (.dp (DE.ju T e b) q [])):(ρ i).v= .pointer (some ⟨b,0,none⟩)/\∃cs,w.heap[b]? =some (.cells cs.toArray T (0,0))/\sx.H8 e (Un F.S0 ρ O.d) w q cs:=hc.own i _ he
theorem Oq{ρ:Nat->LV}{a:aBe}{w:aAf}{q q':List (sx α)}{k:Nat}{c0 c1 c2 news:List aA4}(hc:Core F O.d ρ w)(hs:∀t s,lk O.g t=some s->s.ok ρ (Un F.S0 ρ O.d) w (a.tmps.getD t undef))(hz:a.tmps.size=F.N)(G6:a.defers=F.df)(he:aF O.d i=some (.dp (DE.ju T e b) q []))(hd:eR d F.N=true)(hb:w.heap[b]? =some (.cells (c0++(c1++c2)).toArray T (0,0)))(hk:k<=9223372036854775807)(hq:∀w',Ext (Un F.S0 ρ O.d) (Un F.S0 ρ O.d) w w'->sx.H8 e (Un F.S0 ρ O.d) w' q' (c0++(news++c2))):St F ⟨gL d (.v (Fu.int .i64) ((k:Nat):Int)) O.g,(i,.dp (DE.ju T e b) q' [])::O.d⟩ (a.put d (.int .i64 (k:Int))) (w.setRow b (c0++(news++c2)).toArray):=by
 have B:=(Tz hc he).1;have E:=ff.setRow w b (c0++(news++c2)).toArray;obtain⟨K,L⟩:=hc.gv (en':= .dp (DE.ju T e b) q' []) he (.inl (by rw[B];rfl)) E (λI=>⟨B,_,setRow_heap w b _ (c0++(news++c2)).toArray T _ hb,hq _ I⟩);refine⟨⟨ρ,K,λt s u=>?_⟩,by rw[kC,hz],by cases d<;>exact G6⟩;have C:=λt s u=>Slot.j5 s _ (hs t s u) L (λ_ _=>rfl);cases d with
 |none=>exact C t s u
 |some D=>
  simp only[gL] at u;have G:D<a.tmps.size:=by rw[hz];exact gQ hd
  rw[kD a D _ t G];rw[kF] at u;split at u
  ·rename_i A;cases u;rw[sM A];exact pE (yW hk) _ _ _
  ·rename_i A;rw[nS A];exact C t s u
theorem Cz{P:aA5}{w:aAf}{U E tt:aAg}{en b o n c m cap:Nat}{ad:Option aBc}{c0 c1 c2 news:List aA4}(hU:∀w,(underlying U).run P w= .ok (.slice E) w)(hE:∀w,(sizeOf E).run P w= .ok en w)(hb:w.heap[b]? =some (.cells (c0++(c1++c2)).toArray T (0,0)))(h0:c0.length=o)(h1:c1.length=news.length)(hn:news.length=min m n*en)(X2:∀ad0,ad=some ad0->∀j u,news[j]? =some u->w.cell? (ad0.add j)=some u)(ft:ad=none->news=[])(X1:∀v∈news,v.oneCell'=true):(Builtin.copy_ #[U,U] tt #[.slice (some ⟨b,o,none⟩) n c,.slice ad m cap]).run P w= .ok (.int .i64 ((min m n:Nat):Int)) (w.setRow b (c0++(news++c2)).toArray):=by
 have B:(Builtin.firstCells en (min m n) (.slice ad m cap)).run P w= .ok news.toArray w:=by
  cases E7:ad with
  |none=>rw[ft E7];simp[Builtin.firstCells]
  |some ad0=>exact run_firstCells_some (P:=P) w en (min m n) ad0 m cap news hn (X2 ad0 E7)
 have C:o+news.length<=(c0++(c1++c2)).length:=by simp only[cM];omega
 have A:=run_storeCells_at P b o T news 0 (c0++(c1++c2)).toArray w hb (by simpa using C) X1;have D:(c0++(c1++c2)).take o=c0:=by rw[<-h0];exact aGz
 have Rt:(c0++(c1++c2)).drop (o+news.length)=c2:=by
  rw[<-h0,<-h1,<-dt,<-cM];exact aGa
 simp only[aHq] at A;rw[D,Rt,dt] at A;simp only[Builtin.copy_];have F:Nat.min m n=min m n:=rfl;simp[hU,hE,Builtin.lenOf,F,B,A,goInt]
theorem Jk{xs:List α}{S w cs}(h:e.H8 xs S w cs):∀v∈cs,v.oneCell'=true:=qK h
theorem Ua{q m pp n1 c1 n2 c2 o1 o2:Nat}{A B:List α}{E:aAg}(he:aF O.d i=some (.dp (DE.ju T e b) [.any pp,.rows A,.rows B,.any q] []))(hx:aV O.g x=some (.T9 i o1 0 n1 c1))(hy:aV O.g y=some (.T9 i o2 0 n2 c2))(ho1:o1=pp+(A.length+m)*e.n)(ho2:o2=pp+A.length*e.n)(iw:n1=B.length)(hn2:n2=B.length+m)(hq:m*e.n<=q)(hBl:B.length<=9223372036854775807)(hU:∀w,(underlying U).run F.P w= .ok (.slice E) w)(hE:∀w,(sizeOf E).run F.P w= .ok e.n w)(hd:eR d F.N=true):JM F ⟨d,.call ⟨.builtin .copy,#[x,y],#[U,U]⟩,ty,p,af,gd⟩ O ⟨gL d (.v (Fu.int .i64) ((B.length:Nat):Int)) O.g,(i,.dp (DE.ju T e b) [.any pp,.rows A,.any (m*e.n),.rows B,.any (q - m*e.n)] [])::O.d⟩:=by
 subst ho1 ho2 iw hn2;rintro a w ⟨⟨ρ,S,hs⟩,N2,G6⟩;have K:=aY S hs (Op.call ⟨.builtin .copy,#[x,y],#[U,U]⟩).operands;obtain⟨b1,g1,g2⟩:=qP (K.slot x (by simp[Op.operands,Call.operands]) _ hx);obtain⟨b2,g3,g4⟩:=qP (K.slot y (by simp[Op.operands,Call.operands]) _ hy);obtain⟨k1,cs,M,D,_,rfl,G,I,_,rfl,k4,cb,_,rfl,R,Q,_,rfl,V,rfl⟩:=Tz S he;have e1:b1=b:=by rw[k1] at g1;cases g1;rfl
 have e2:b2=b:=by rw[k1] at g3;cases g3;rfl
 rw[e1] at g2;rw[e2] at g4;have G:D.length=pp:=G;have V:Q.length=q:=V;have X:=bG k4;have ll:=bG R;obtain⟨C,L6⟩:∃C,C=cb++(Q++[]):=⟨_,rfl⟩;have L:C.length=B.length*e.n+q:=by rw[L6];simp only[cM,ue];omega
 have cq:D++(I++(cb++(Q++[])))=(D++I++C.take (m*e.n))++((C.drop (m*e.n)).take (B.length*e.n)++C.drop (m*e.n+B.length*e.n)):=by
  rw[<-L6];have:C=C.take (m*e.n)++((C.drop (m*e.n)).take (B.length*e.n)++C.drop (m*e.n+B.length*e.n)):=by
   rw[<-aHr,sw,sw]
  conv=>lhs;rw[this]
  simp only[dt]
 rw[cq] at M;have ai:min (B.length+m) B.length=B.length:=by omega
 have P4:∀j u,cb[j]? =some u->w.cell? ((⟨b,pp+A.length*e.n,none⟩:aBc).add j)=some u:=by
  have hm:r8 w b (D.length+I.length) cb:=by
   have h1:=r8.of_heap M;rw[<-cq,<-dt] at h1;have:=r8.sub (a:=D++I) (c:=cb) (d:=Q++[]) h1;simpa using this
  intro j u hj;have:=hm.cell j u hj
  rwa [G,X] at this
 have hr:=Cz (P:=F.P) (w:=w) (tt:=ty) (T:=T) (U:=U) (E:=E) (en:=e.n) (b:=b) (o:=pp+(A.length+m)*e.n) (n:=B.length) (c:=c1) (m:=B.length+m) (cap:=c2) (ad:=some ⟨b,pp+A.length*e.n,none⟩) (news:=cb) hU hE M
  (by simp only[cM,Z1,G,X,L];rw[aGc (by omega),jk];omega)
  (by simp only[Z1,mr,L,ll];omega) (by rw[ai];exact ll) (λac h=>by cases h;exact P4) (λh=>by cases h) (Jk R)
 rw[ai] at hr;refine j6.value (v:= .int .i64 ((B.length:Nat):Int)) (w':=_) ?_ (Oq (q':=[.any pp,.rows A,.any (m*e.n),.rows B,.any (q - m*e.n)]) S hs N2 G6 he hd M hBl (news:=cb) λw' ab=>?_)
 ·simp[execOp,resolve,invoke,builtin,g2,g4,hr]
 ·refine⟨D,_,by rw[dt,dt],G,I,_,rfl,Fu.q8 k4 ab,C.take (m*e.n),_,rfl,?_,cb,_,rfl,Fu.q8 R ab,C.drop (m*e.n+B.length*e.n),[],by simp,?_,rfl⟩
  ·show (C.take (m*e.n)).length=_;rw[Z1,L];omega
  ·show (C.drop (m*e.n+B.length*e.n)).length=_;rw[mr,L];omega
theorem Yh{q m pp n1 c1 o1 k:Nat}{A V B:List α}{E:aAg}(he:aF O.d i=some (.dp (DE.ju T e b) [.any pp,.rows A,.any k,.rows B,.any q] []))(hx:aV O.g x=some (.T9 i o1 0 n1 c1))(hy:Src O y e V)(ho1:o1=pp+A.length*e.n)(hV:V.length=m)(hk:k=m*e.n)(iw:m<=n1)(hU:∀w,(underlying U).run F.P w= .ok (.slice E) w)(hE:∀w,(sizeOf E).run F.P w= .ok e.n w)(hd:eR d F.N=true):JM F ⟨d,.call ⟨.builtin .copy,#[x,y],#[U,U]⟩,ty,p,af,gd⟩ O ⟨gL d (.v (Fu.int .i64) ((m:Nat):Int)) O.g,(i,.dp (DE.ju T e b) [.any pp,.rows A,.rows V,.rows B,.any q] [])::O.d⟩:=by
 subst ho1 hk;rintro a w ⟨⟨ρ,hc,hs⟩,N2,G6⟩;have K:=aY hc hs (Op.call ⟨.builtin .copy,#[x,y],#[U,U]⟩).operands;obtain⟨b1,g1,g2⟩:=qP (K.slot x (by simp[Op.operands,Call.operands]) _ hx);have D3:∀q,q∈#[y]->q∈(Op.call ⟨.builtin .copy,#[x,y],#[U,U]⟩).operands:=by
  intro q C;have jv:q=y:=by simpa using C
  subst jv;simp[Op.operands,Call.operands]
 obtain⟨ql,ad,c,r1,r2⟩:=hy ρ _ a w ⟨K.low,λq C s h=>K.slot q (D3 q C) s h,λq C s h=>K.U4 q (D3 q C) s h⟩;obtain⟨k1,cs,Q,G,_,rfl,D,R,_,rfl,k4,cg,_,rfl,I,S,_,rfl,k5,X,_,rfl,X0,rfl⟩:=Tz hc he;have e1:b1=b:=by rw[k1] at g1;cases g1;rfl
 rw[e1] at g2;have D:G.length=pp:=D;have I:cg.length=m*e.n:=I;have og:=bG k4;have ai:min m n1=m:=by omega
 obtain⟨news,ab,n2,n3,n4⟩:∃news:List aA4,news.length=m*e.n/\e.H8 V (Un F.S0 ρ O.d) w news/\(∀L,ad=some L->∀j u,news[j]? =some u->w.cell? (L.add j)=some u)/\(ad=none->news=[]):=by
  rcases r2 with rfl |⟨b3,ae,ds,rfl,ac,yp⟩
  ·simp at hV;subst hV;exact⟨[],by simp,rfl,λ_ _ j u h=>by simp at h,λ_=>rfl⟩
  ·exact⟨ds,by rw[bG yp,hV],yp,λL h=>by cases h;exact ac.cell,λh=>by cases h⟩
 have cq:G++(R++(cg++(S++(X++[]))))=(G++R)++(cg++(S++X)):=by simp
 rw[cq] at Q;have hr:=Cz (P:=F.P) (w:=w) (tt:=ty) (T:=T) (U:=U) (E:=E) (en:=e.n) (b:=b) (o:=pp+A.length*e.n) (n:=n1) (c:=c1) (m:=m) (cap:=c) (ad:=ad) (news:=news) hU hE Q
  (by simp only[cM,D,og]) (by rw[I,ab]) (by rw[ai];exact ab) n3 n4 (Jk n2)
 rw[ai] at hr;refine j6.value (v:= .int .i64 ((m:Nat):Int)) (w':=_) ?_ (Oq (q':=[.any pp,.rows A,.rows V,.rows B,.any q]) hc hs N2 G6 he hd Q (by omega) (news:=news) λw' M=>?_)
 ·rw[hV] at r1;simp[execOp,resolve,invoke,builtin,g2,r1,hr]
 ·exact⟨G,_,by rw[dt],D,R,_,rfl,Fu.q8 k4 M,news,_,rfl,Fu.q8 n2 M,S,_,rfl,Fu.q8 k5 M,X,[],by simp,X0,rfl⟩
end
section
variable {d:Option Tmp}{x y z:aAp}{e:Fu α}{T:aAg}{i b:Nat}
theorem Yi{xs:Array aAp}{ρ:Nat->LV}{S a w}(K:M4 O xs ρ S a w)(hm:x∈xs){o n c:Nat}{q:List (sx α)}(hx:aV O.g x=some (.T9 i o 0 n c))(he:aF O.d i=some (.dp (DE.ju T e b) q [])):a.eval x= .slice (some ⟨b,o,none⟩) n c/\(∃cs,w.heap[b]? =some (.cells cs.toArray T (0,0))/\sx.H8 e S w q cs)/\S b/\b<w.heap.size:=by
 obtain⟨E,u,B⟩:=qP (K.slot x hm _ hx);obtain⟨⟨A,C⟩,D⟩:=K.U4 x hm _ hx i (by simp[Slot.E1]) _ he;rw[A] at u;cases u;exact⟨B,C,D b (.inl (by rw[A];rfl))⟩
theorem Src.ju{pp q n c o:Nat}{A B:List α}(h:aV O.g y=some (.T9 i o 0 n c))(he:aF O.d i=some (.dp (DE.ju T e b) [.any pp,.rows A,.rows B,.any q] []))(ho:o=pp+A.length*e.n)(hn:n=B.length)(N2:B.length<=140737488355328):Src O y e B:=by
 subst ho hn;intro ρ S a w K;obtain⟨u,⟨cs,F,D,_,rfl,C,G,_,rfl,I,E,_,rfl,L,M,_,rfl,P,rfl⟩,_⟩:=Yi K (x:=y) (by simp) h he;have C:D.length=pp:=C;have N:=bG I;refine⟨N2,_,c,u,.inr ⟨b,_,E,rfl,?_,L⟩⟩;have u:=r8.of_heap F;rw[<-dt] at u;have:=r8.sub (a:=D++G) (c:=E) (d:=M++[]) u
 grind
theorem Kw{zs ys ws:List α}{lo:Int}{E:aAg}(hs0:Sw.sub zs lo (zs.length:Int)=some ws)(hx:aV O.g x=some (.sub i (lo.toNat*e.n) ((zs.length:Int).toNat - lo.toNat)))(he:aF O.d i=some (.arr T e zs))(hy:Src O y e ys)(hle:ys.length<=zs.length - lo.toNat)(hU:∀w,(underlying U).run F.P w= .ok (.slice E) w)(hE:∀w,(sizeOf E).run F.P w= .ok e.n w)(hd:eR d F.N=true):JM F ⟨d,.call ⟨.builtin .copy,#[x,y],#[U,U]⟩,ty,p,af,gd⟩ O ⟨gL d (.v (Fu.int .i64) ((ys.length:Nat):Int)) O.g,(i,.arr T e (zs.take lo.toNat++ys++zs.drop (lo.toNat+ys.length)))::O.d⟩:=by
 rintro a w ⟨⟨ρ,hc,I0⟩,N2,G6⟩;have K:=aY hc I0 (Op.call ⟨.builtin .copy,#[x,y],#[U,U]⟩).operands;have ab:=K.slot x (by simp[Op.operands,Call.operands]) _ hx;simp only[Slot.ok] at ab;obtain⟨_,c,o,g1,g2,R⟩:=ab;have Z7:K0 T e zs (Un F.S0 ρ O.d) w (ρ i).v:=(K.U4 x (by simp[Op.operands,Call.operands]) _ hx i (by simp[Slot.E1]) _ he).1;have D3:∀q,q∈#[y]->q∈(Op.call ⟨.builtin .copy,#[x,y],#[U,U]⟩).operands:=by
  intro q G;have jv:q=y:=by simpa using G
  subst jv;simp[Op.operands,Call.operands]
 obtain⟨ql,ad,cy,r1,r2⟩:=hy ρ _ a w ⟨K.low,λq G s h=>K.slot q (D3 q G) s h,λq G s h=>K.U4 q (D3 q G) s h⟩;obtain⟨s0,s1,_,_⟩:=eB hs0;obtain⟨l,hl⟩:∃l,l=lo.toNat:=⟨_,rfl⟩;simp only[gR] at g1 g2 R;rw[<-hl] at g1 g2 R hle ⊢;have ap:l<=zs.length:=by omega
 have done:∀w',(execOp a.eval ⟨d,.call ⟨.builtin .copy,#[x,y],#[U,U]⟩,ty,p,af,gd⟩).run F.P w= .ok (.value (.int .i64 ((ys.length:Nat):Int))) w'->
   (∃b,mS (ρ i) b/\ff b w w'/\(Ext (Un F.S0 ρ O.d) (Un F.S0 ρ O.d) w w'->(j2.arr T e (zs.take l++ys++zs.drop (l+ys.length))).ok ρ (Un F.S0 ρ O.d) w' (ρ i)))\/(w'=w/\zs.take l++ys++zs.drop (l+ys.length)=zs)->
   j6 F.P ⟨d,.call ⟨.builtin .copy,#[x,y],#[U,U]⟩,ty,p,af,gd⟩ a w λv w'=>St F ⟨gL d (.v (Fu.int .i64) ((ys.length:Nat):Int)) O.g,(i,.arr T e (zs.take l++ys++zs.drop (l+ys.length)))::O.d⟩ (a.put d v) w':=by
  intro w' Q h;refine j6.value Q ?_;obtain⟨q1,q2⟩:Core F ((i,.arr T e (zs.take l++ys++zs.drop (l+ys.length)))::O.d) ρ w'/\Ext (Un F.S0 ρ O.d) (Un F.S0 ρ ((i,.arr T e (zs.take l++ys++zs.drop (l+ys.length)))::O.d)) w w':=by
   rcases h with⟨b,I,h2,L⟩|⟨rfl,h2⟩
   ·exact hc.gv he I h2 L
   ·rw[h2];have ac:∀q en,aF O.d q=some en↔aF ((i,.arr T e zs)::O.d) q=some en:=λq en=>by
     rw[bA];split
     ·rename_i h;subst h;rw[he]
     ·rfl
    exact⟨hc.congr ac,⟨gC _,λk _ hk=>⟨rfl,by rw[<-Un.congr ac];exact hk⟩⟩⟩
  refine⟨⟨ρ,q1,λt s A=>?_⟩,by rw[kC,N2],by cases d<;>exact G6⟩;have ae:∀t s,lk O.g t=some s->s.ok ρ (Un F.S0 ρ ((i,.arr T e (zs.take l++ys++zs.drop (l+ys.length)))::O.d)) w' (a.tmps.getD t undef):=λt s A=>Slot.j5 s _ (I0 t s A) q2 (λ_ _=>rfl);cases d with
  |none=>exact ae t s A
  |some q0=>
   simp only[gL] at A;have B0:q0<a.tmps.size:=(by rw[N2];exact gQ hd);rw[kD a q0 _ t B0];rw[kF] at A;split at A
   ·rename_i I;cases A;rw[sM I];exact pE (yW (by omega)) _ _ _
   ·rename_i I;rw[nS I];exact ae t s A
 by_cases S:zs.length - l=0
 ·have al:ys=[]:=ya (by omega);subst al;refine done w ?_ (.inr ⟨rfl,by simp⟩);have D:∃q,a.eval x= .slice q 0 c:=by
   rw[R,S];rcases Z7 with⟨_,h⟩|⟨b,cap,B,cs,C,h,_⟩<;>rw[h]<;>exact⟨_,rfl⟩
  obtain⟨q,D⟩:=D;have hf:(Builtin.firstCells e.n 0 (.slice ad 0 cy)).run F.P w= .ok #[] w:=by
   cases ad<;>simp[Builtin.firstCells,loadCells,loadCellsFrom]
  have an:(Builtin.copy_ #[U,U] ty #[.slice q 0 c,.slice ad 0 cy]).run F.P w= .ok (.int .i64 0) w:=by
   have M:Nat.min 0 0=0:=rfl;cases q<;>simp[Builtin.copy_,hU,hE,Builtin.lenOf,M,hf,goInt,storeCells]
  simp only[ue] at r1;simp[execOp,resolve,invoke,builtin,D,r1,an]
 ·have ho:o=l*e.n:=g2.resolve_right S;subst ho;rcases Z7 with⟨rfl,h⟩|⟨b,cap,B,cs,C,L,h4,h5,h6,h7,h8⟩
  ·simp at S
  ·have D6:=bG h5;have D:a.eval x= .slice (some ⟨b,B.length+l*e.n,none⟩) (zs.length - l) c:=(by rw[R,L];rfl);obtain⟨news,ak,n2,n3,n4⟩:∃news:List aA4,news.length=ys.length*e.n/\e.H8 ys (Un F.S0 ρ O.d) w news/\(∀V,ad=some V->∀j u,news[j]? =some u->w.cell? (V.add j)=some u)/\(ad=none->news=[]):=by
    rcases r2 with rfl |⟨b3,aq,ds,rfl,ao,yp⟩
    ·exact⟨[],by simp,rfl,λ_ _ j u h=>by simp at h,λ_=>rfl⟩
    ·exact⟨ds,bG yp,yp,λV h=>by cases h;exact ao.cell,λh=>by cases h⟩
   have M:min ys.length (zs.length - l)=ys.length:=(by omega);have m1:l*e.n+ys.length*e.n<=cs.length:=(by rw[D6,<-jk];exact aEb _ (by omega));have cq:B++(cs++C)=(B++cs.take (l*e.n))++((cs.drop (l*e.n)).take (ys.length*e.n)++(cs.drop (l*e.n+ys.length*e.n)++C)):=by
    have:cs=cs.take (l*e.n)++((cs.drop (l*e.n)).take (ys.length*e.n)++cs.drop (l*e.n+ys.length*e.n)):=by
     rw[<-aHr,sw,sw]
    conv=>lhs;rw[this]
    simp only[dt]
   rw[cq] at h4;have Q:=Cz (P:=F.P) (w:=w) (tt:=ty) (T:=T) (U:=U) (E:=E) (en:=e.n) (b:=b) (o:=B.length+l*e.n) (n:=zs.length - l) (c:=c) (m:=ys.length) (cap:=cy) (ad:=ad) (news:=news) hU hE h4
    (by simp only[cM,Z1];omega) (by simp only[Z1,mr];omega) (by rw[M];exact ak) n3 n4 (Jk n2)
   rw[M] at Q;refine done (w.setRow b ((B++cs.take (l*e.n))++(news++(cs.drop (l*e.n+ys.length*e.n)++C))).toArray) ?_ (.inl ⟨b,.inl (by rw[L];rfl),ff.setRow w b _,λX=> .inr ⟨b,cap,B,cs.take (l*e.n)++news++cs.drop (l*e.n+ys.length*e.n),C,?_,?_,?_,?_,?_,?_⟩⟩)
   ·simp[execOp,resolve,invoke,builtin,D,r1,Q]
   ·rw[L];simp only[cM,Z1,mr];congr 1;omega
   ·have:=setRow_heap w b _ ((B++cs.take (l*e.n))++(news++(cs.drop (l*e.n+ys.length*e.n)++C))).toArray T _ h4;rw[this];congr 3;simp
   ·refine fG (fG (Fu.q8 (rM l h5) X) (Fu.q8 n2 X)) ?_;have aj:=Fu.q8 (uZ (l+ys.length) h5) X;rw[jk] at aj;exact aj
   ·simp only[cM,Z1,mr];omega
   ·simp only[cM,Z1,mr,ak];omega
   ·simp only[cM,Z1,mr];omega
theorem JY{pp q k n c o:Nat}{nk:Int}{A B:List α}{I:aAg}{kI:aA7}{kI':aA7}{ti:TypeInfo}{z0:aA4}{zv:α}(j:Nat)(h:aV O.g x=some (.T9 i o 0 n c))(he:aF O.d i=some (.dp (DE.ju T e b) [.any pp,.rows A,.rows B,.any q] []))(hy:aV O.g y=some (.v (Fu.int kI) nk))(ho:o=pp)(hn:n=A.length)(hnk:nk=(k:Int))(hk:0<k)(aN1:c<n+k)(hlen:A.length+k<=4294967296)(iu:Nat.blt 0 e.n=true)(hU:∀w,(underlying U).run F.P w= .ok (.slice T) w)(hI:∀w,(underlying I).run F.P w= .ok (.int kI') w)(hi:∀w,(typeInfo T).run F.P w= .ok ti w)(hS:∀w,(sizeOf T).run F.P w= .ok e.n w)(hz:ti.zero=some z0)(yj:∀S w,e.ok zv S w z0.cells.toList)(cx:Nat.ble ti.bytes 4096=true):JO F ⟨d,.call ⟨.builtin .append,#[x,y],#[U,I]⟩,ty,p,af,gd⟩ O (.ref j) [(j,.arr T e (A++List.replicate k zv))]:=by
 subst ho hn hnk;have iu:1<=e.n:=by simpa[Nat.blt] using iu
 have cx:=gQ cx;intro ρ S a w K;obtain⟨h1,⟨cs,h2,V,_,rfl,D,ca,_,rfl,X,cb,_,rfl,k5,av,_,rfl,X0,rfl⟩,ay,B0⟩:=Yi K (x:=x) (by simp[Op.operands,Call.operands]) h he;have D:V.length=o:=D;have L:=bG X;have ab:=(dC K (x:=y) (by simp[Op.operands,Call.operands]) hy).1;have aw:ti.size=e.n:=Jc hi hS;have hm:r8 w b o ca:=by
  have:=r8.sub (a:=V) (c:=ca) (d:=cb++(av++[])) (r8.of_heap h2);simpa[D] using this
 have ac:∀j v,ca[j]? =some v->w.drew.cell? ((⟨b,o,none⟩:aBc).add j)=some v:=hm.cell;have ad:(Builtin.firstCells e.n A.length (.slice (some ⟨b,o,none⟩) A.length c)).run F.P w.drew= .ok ca.toArray w.drew:=run_firstCells_some (P:=F.P) w.drew e.n A.length ⟨b,o,none⟩ A.length c ca L ac;have ax:k*ti.bytes<=281474976710656:=by
  have:k*ti.bytes<=4294967296*4096:=aGh (by omega) cx;omega
 have lf:Builtin.nextslicecap (A.length+k) c*ti.bytes<=281474976710656:=growslice_fits (by omega) (by
  have:(A.length+k)*ti.bytes<=4294967296*4096:=aGh hlen cx
  omega)
 have E:(Builtin.append_ #[U,I] ty #[.slice (some ⟨b,o,none⟩) A.length c,.int kI k]).run F.P w=
   .ok (.slice (some ⟨w.heap.size,0,none⟩) (A.length+k) (grownCap w (A.length+k) c T))
    (w.drew.alloc (.cells (ca.toArray++Builtin.zeroCells z0.cells k++Builtin.zeroCells z0.cells (grownCap w (A.length+k) c T - (A.length+k))) T)):=by
  have ae:k≠0:=by omega
  have hw:IntKind.i64.wrap (k:Int)=k:=by rw[IntKind.wrap_i64];omega
  have hn:¬(A.length+k<=c):=by omega
  have ai:¬(9223372036854775807<((A.length:Int)+(k:Int))):=by omega
  have aj:¬(281474976710656<Builtin.nextslicecap (A.length+k) c*ti.bytes):=by omega
  have ak:¬(281474976710656<(k:Int)*(ti.bytes:Int)):=by
   rw[<-Int.natCast_mul];omega
  have al:¬((k:Int)<0):=by omega
  have an:¬(k*e.n=0):=Nat.mul_ne_zero ae (by omega);have ao:∀w,(zeroValue T).run F.P w= .ok z0 w:=λw=>by
   have:=hi w;simp[zeroValue,this,hz]
  simp[Builtin.append_,hU,hI,hS,hi,ao,asInt,asIntOf,hw,hn,al,an,ai,aj,ak,Question.forced,ad,newRow,grownCap]
 have xp:=grownCap_ge w (A.length+k) c T;obtain⟨u,L6⟩:∃u,u=(Builtin.zeroCells z0.cells (grownCap w (A.length+k) c T - (A.length+k))).toList:=⟨_,rfl⟩;have G:z0.cells.size=e.n:=by have:=e.len (yj (λ_=>False) w);simpa using this
 have M:(Builtin.zeroCells z0.cells k).toList.length=k*e.n:=by rw[rk,size_zeroCells,G]
 have kv:u.length=(grownCap w (A.length+k) c T - (A.length+k))*e.n:=by rw[L6,rk,size_zeroCells,G]
 have ap:∀S w,e.H8 (List.replicate k zv) S w (Builtin.zeroCells z0.cells k).toList:=λS w=>By (yj S w) k _ M λi hi=>zE (by rw[G];exact hi);have aq:ca.toArray++Builtin.zeroCells z0.cells k++Builtin.zeroCells z0.cells (grownCap w (A.length+k) c T - (A.length+k))=([]++((ca++(Builtin.zeroCells z0.cells k).toList)++u)).toArray:=by
  apply Array.ext';simp[L6]
 rw[aq] at E;obtain⟨w',C⟩:∃w',w'=w.drew.alloc (.cells ([]++((ca++(Builtin.zeroCells z0.cells k).toList)++u)).toArray T):=⟨_,rfl⟩;rw[<-C] at E;have N:Below w.heap.size w w':=by
  rw[C];exact Below.trans (b:=w.drew) ⟨rfl,rfl,rfl,gC _,λ_ _=>rfl⟩ (gO w.drew _)
 refine j6.value (w':=w') (v:= .slice (some ⟨w.heap.size,0,none⟩) (A.length+k) (grownCap w (A.length+k) c T)) (by simp[execOp,resolve,invoke,builtin,h1,ab,E]) ?_;refine wK (.slice (some ⟨w.heap.size,0,none⟩) (A.length+k) (grownCap w (A.length+k) c T)) N rfl ?_ ?_ ?_
 ·intro b' Q;simp only[E2,W6] at Q;subst Q;exact⟨gC _,by rw[C,World.size_alloc];exact Nat.lt_succ_self _⟩
 ·intro R ρ' hS' _;have au:Ext S R w w':=Qr N hS';refine .inr ⟨w.heap.size,grownCap w (A.length+k) c T,[],ca++(Builtin.zeroCells z0.cells k).toList,u,by simp[LV.of],?_,fG (Fu.q8 X au) (ap _ _),by simpa using xp,?_,by simp;omega⟩
  ·rw[C,show w.heap.size=w.drew.heap.size from rfl,heap_alloc_new]
  ·rw[cM,L,M,kv,<-jk,<-jk];exact aEb _ (by omega)
 ·intro R ρ' _ hρ _;simp only[Slot.ok];exact⟨.inl ⟨_,_,_,hρ⟩,hρ.symm⟩
theorem Ri{P:aA5}{w:aAf}{tS tR E:aAg}{size b o la ca lb cb oa ba:Nat}{cs:List aA4}{c':Array aA4}{T':aAg}{fr:Nat×Nat}(hU:∀w,(underlying tS).run P w= .ok (.slice E) w)(hz:∀w,(sizeOf E).run P w= .ok size w)(G4:ba≠b)(hb:w.heap[b]? =some (.cells cs.toArray T (0,0)))(mj:cs≠ [])(ha:w.heap[ba]? =some (.cells c' T' fr))(lj:c'.size≠0):(Extern.SlicesOverlaps.overlaps #[tS,tS] #[tR] #[.slice (some ⟨ba,oa,none⟩) la ca,.slice (some ⟨b,o,none⟩) lb cb]).run P w= .ok (.bool false) w:=by
 have C:(ba != b)=true:=by simpa using G4
 have D:(ba==b)=false:=by simpa using G4
 have F:∀o,w.frozen? ⟨b,o,none⟩=false:=λo=>by simp[World.frozen?,hb]
 have u:w.shape? b=some (T,cs.length):=by simp[World.shape?,hb]
 have A:w.shape? ba=some (T',c'.size):=by simp[World.shape?,ha]
 obtain⟨mc,I⟩:∃mc,c'.size=mc+1:=⟨c'.size - 1,by omega⟩;rw[I] at A;have G:∃m,cs.length=m+1:=⟨cs.length - 1,by have:=aD4.2 mj;omega⟩;obtain⟨m,K⟩:=G;rw[K] at u
 change Sem.run P (α:=aA4) (do
  let some t:=(#[tS,tS]:Array aAg)[0]? | stuck "slices.overlaps: no parameter types"
  let .slice elem<-underlying t | stuck "slices.overlaps: slice type expected"
  let size<-sizeOf elem
  match (some ⟨ba,oa,none⟩:Option aBc),(some ⟨b,o,none⟩:Option aBc) with
  |some a,some b=>
   if la=0\/lb=0\/size=0 then pure (Value.bool false)
   else if a.block != b.block && (<-frozen a) && (<-frozen b) then unsupported .addressObserved
   else do
    if a.block != b.block then do
     noView a;noView b
     if<-mayBeOne a b then return Value.bool ((<-choose (.extern "sameAddr.stringBytes" 2))==1)
    pure (Value.bool (a.block==b.block && a.off<b.off+lb*size && b.off<a.off+la*size))
  |_,_=>pure (Value.bool false)) w=_
 by_cases B:la=0\/lb=0\/size=0
 ·simp[hU,hz,B]
 ·cases hfa:w.frozen? ⟨ba,oa,none⟩<;>cases bMi:w.frozen? ⟨ba,mc+1,none⟩<;>
   simp[hU,hz,B,C,D,frozen,noView,viewAt,mayBeOne,stringish,shape,Sem.run,A,u,F,hfa,bMi]
theorem Ub{f:aA6}{fn:Func}{vs:List α}{o n c pp q:Nat}{A B:List α}{ts:Array aAg}{R:aAg}(hf:F.P.funcs[f]? =some fn)(bB8:(fn.name== "runtime.NumGoroutine")=false) (hb:fn.body.isNone=true) (hn:Extern.findNext fn=none) (bMl:Extern.find fn=some (Extern.SlicesOverlaps.overlaps #[U,U] #[R])) (hx:aV O.g x=some (.v (Fu.sl e) vs)) (hy:aV O.g y=some (.T9 i o 0 n c)) (he:aF O.d i=some (.dp (DE.ju T e b) [.any pp,.rows A,.rows B,.any q] [])) (hvs:vs≠ []) (hB:B≠ []) (iu:Nat.blt 0 e.n=true) (hU:∀w,(underlying U).run F.P w= .ok (.slice T) w) (hE:∀w,(sizeOf T).run F.P w= .ok e.n w):JO F ⟨d,.call ⟨.value (.func f),#[x,y],ts⟩,ty,p,af,gd⟩ O (.v Fu.bool false) []:=by
 have iu:1<=e.n:=by simpa[Nat.blt] using iu
 intro ρ S a w K;obtain⟨ad,ab,C,_,h2⟩:=Tq K (x:=x) (by simp[Op.operands,Call.operands]) hx;obtain⟨D,⟨cs,g2,g3⟩,g4,g5⟩:=Yi K (x:=y) (by simp[Op.operands,Call.operands]) hy he;obtain⟨b1,ac,ds,rfl,k1,k2,k3,k4⟩:=h2.resolve_left hvs;obtain⟨c',T',fr,k5,k6⟩:=k3;have E:=bG k4;have G:=aD4.2 hvs;have I:0<ds.length:=by rw[E];exact Nat.mul_pos G iu
 have L:c'.size≠0:=by
  intro h0;have:=k6 0 I;rw[aEl (by omega)] at this;cases this
 have M:cs≠ []:=by
  rintro rfl;obtain⟨ae,_,h,_,ca,_,rfl,_,cb,_,rfl,h5,_⟩:=g3;have N:=bG h5;have Q:=aD4.2 hB;have:0<cb.length:=by rw[N];exact Nat.mul_pos Q iu
  have V:=congrArg List.length h;simp only[cM,ue] at V;omega
 have X:=Ri (P:=F.P) (w:=w) (T:=T) (tS:=U) (tR:=R) (size:=e.n) (la:=vs.length) (ca:=ab) (lb:=n) (cb:=c) (oa:=ac) (o:=o) hU hE (λhh=>k2 (by rw[hh];exact g4)) g2 M k5 L;have u:=run_callFunc_extern hf bB8 hb hn bMl #[a.eval x,a.eval y] w;rw[C,D] at u;rw[X] at u;refine j6.value (w':=w) (v:= .bool false) ?_ (y9.same (iA _ ρ S w));have Z8:(execOp a.eval ⟨d,.call ⟨.value (.func f),#[x,y],ts⟩,ty,p,af,gd⟩).run F.P w=(callFunc f #[a.eval x,a.eval y]).run F.P w:=by
  simp[execOp,resolve,invoke,Deferred.ofValue,Act.eval]
 rw[Z8,C,D,u];rfl
def ins{α:Type}(xs:List α)(n:Int)(vs:List α):Option (List α):=if 0<=n/\n<=xs.length/\xs.length+vs.length<=4294967296 then some (xs.take n.toNat++(vs++xs.drop n.toNat)) else none
theorem KA{α:Type}{xs vs r:List α}{n:Int}(h:ins xs n vs=some r):0<=n/\n<=xs.length/\xs.length+vs.length<=4294967296/\r=xs.take n.toNat++(vs++xs.drop n.toNat):=by
 grind [ins]
theorem BO{v:aA4}{S w u}:Fu.raw.val v S w u↔u=v/\v.oneCell'=true:=by
 constructor
 ·rintro⟨cs,⟨rfl,h⟩,rfl⟩;grind
 ·rintro⟨rfl,h⟩;exact⟨[u],⟨rfl,h⟩,rfl⟩
theorem EZ{o n c:Nat}{E:aAg}(hx:aV O.g x=some (.T9 i o 0 n c))(hU:∀w,(underlying U).run F.P w= .ok (.slice E) w):JO F ⟨d,.call ⟨.builtin .cap,#[x],#[U]⟩,ty,p,af,gd⟩ O (.v Fu.raw (.int .i64 (c:Int))) []:=by
 intro ρ S a w K;obtain⟨b,_,A⟩:=qP (K.slot x (by simp[Op.operands,Call.operands]) _ hx);refine j6.value (w':=w) ?_ (y9.same (by exact BO.2 ⟨rfl,rfl⟩));have u:(Builtin.cap_ #[U] ty #[.slice (some ⟨b,o,none⟩) n c]).run F.P w= .ok (.int .i64 c) w:=by simp[Builtin.cap_,hU,goInt]
 simp[execOp,resolve,invoke,builtin,A,u]
theorem FA{m n:Int}{T T':aAg}(hx:aV O.g x=some (.v (Fu.int .i64) m))(hy:aV O.g y=some (.v Fu.raw (.int .i64 n))):JO F ⟨d,.binOp .gtr T x y T',ty,p,af,gd⟩ O (.v Fu.bool (cm .gtr m n)) []:=by
 intro ρ S a w K;have A:=(dC K (by simp[Op.operands]) hx).1;have u:=K.slot y (by simp[Op.operands]) _ hy;have u:=(BO.1 u).1;refine j6.value ?_ (y9.same (iA _ ρ S w));simp[execOp,A,u,eqGuard,Go.binOp,Op.intCmp,cm]
end
def kp{α:Type}[DecidableEq α]:List α->α->Option Nat | [],_=>none | a::l,k=>if a=k then some 0 else (kp l k).map (·+1)
theorem KB{α:Type}[DecidableEq α]{k:α}:∀{l:List α} {i:Nat},kp l k=some i->i<l.length/\l[i]? =some k
 | [],i,h=>by simp[kp] at h
 |a::l,i,h=>by
  simp only[kp] at h;split at h
  ·grind
  ·cases hr:kp l k with
   |none=>grind
   |some j=>rw[hr] at h;obtain⟨u,A⟩:=KB hr;grind
theorem BP{α β:Type}[DecidableEq α]{k:α}:∀{m:List (α×β)},dQ m k=(kp (m.map (·.1)) k).bind λi=>(m[i]?).map (·.2)
 | []=>rfl
 | (a,b)::m=>by
  simp[dQ,V0,kp];split
  ·simp
  ·rw[BP ];cases kp (m.map (·.1)) k<;>simp
def oy{α:Type}(e:Fu α)(S:Nat->Prop)(w:aAf):List α->List MapEntry->Prop | [],[]=>True | k::ks,x::xs=>e.val k S w x.key/\oy e S w ks xs | _,_=>False
theorem oy.mono{α:Type}{e:Fu α}{S S':Nat->Prop}{w w':aAf}(k:Ext S S' w w'):∀{m:List α} {xs:List MapEntry},oy e S w m xs->oy e S' w' m xs | [],[],_=>trivial | _::_,_::_,⟨h1,h3⟩=>⟨fN h1 k,oy.mono k h3⟩| [],_::_,h=>h.elim | _::_,[],h=>h.elim
theorem oy.len{α:Type}{e:Fu α}{S:Nat->Prop}{w:aAf}:∀{m:List α} {xs:List MapEntry},oy e S w m xs->xs.length=m.length
 | [],[],_=>rfl
 |_::_,_::_,⟨_,u⟩=>by simp[u.len]
 | [],_::_,h=>h.elim
 |_::_,[],h=>h.elim
theorem oy.get{α:Type}{e:Fu α}{S:Nat->Prop}{w:aAf}:∀{m:List α} {xs:List MapEntry},oy e S w m xs->∀{i:Nat} {k:α} {x:MapEntry},m[i]? =some k->xs[i]? =some x->e.val k S w x.key
 | [],[],_,i,k,x,h,_=>by grind
 |_::_,_::_,⟨A,u⟩,i,k,x,h,B=>by
  cases i with
  |zero=>grind
  |succ i=>exact u.get (by simpa using h) (by grind)
 | [],_::_,h,_,_,_,_,_=>h.elim
 |_::_,[],h,_,_,_,_,_=>h.elim
theorem oy.push{α:Type}{e:Fu α}{S:Nat->Prop}{w:aAf}{k:α}{x:MapEntry}(h1:e.val k S w x.key):∀{m:List α} {xs:List MapEntry},oy e S w m xs->oy e S w (m++[k]) (xs++[x]) | [],[],_=>⟨h1,trivial⟩| _::_,_::_,⟨h3,h5⟩=>⟨h3,oy.push h1 h5⟩| [],_::_,h=>h.elim | _::_,[],h=>h.elim
theorem oy.modify{α:Type}{e:Fu α}{S:Nat->Prop}{w:aAf}{f:MapEntry->MapEntry}:∀{m:List α} {xs:List MapEntry} {i:Nat},oy e S w m xs->(∀k x,m[i]? =some k->xs[i]? =some x->e.val k S w (f x).key)->oy e S w m (xs.modify i f)
 | [],[],i,_,_=>by grind
 |_::_,_::_,i,⟨A,u⟩,h=>by
  cases i with
  |zero=>exact⟨h _ _ rfl rfl,u⟩
  |succ i=>exact⟨A,u.modify λk x B C=>(by grind)⟩
 | [],_::_,_,h,_=>h.elim
 |_::_,[],_,h,_=>h.elim
theorem Uc{α:Type}[DecidableEq α]{n:Nat}{P:aA5}{T:aAg}{e:Fu α}(hn:n<=10000)(he:oz n P T e){S S':Nat->Prop}{w1 w2:aAf}{k:α}{cs:List aA4}(hk:e.ok k S' w2 cs)(w:aAf):
  ∀(m:List α) (es:List MapEntry) (i:Nat),oy e S w1 m es->(Instr.findAsking T (e.pk cs) es i).run P w= .ok ((kp m k).bind λj=>(es[j]?).map λx=>(i+j,x.val)) w
 | [],[],i,_=>by simp[Instr.findAsking,kp]
 |a::m,x::xs,i,⟨⟨D,E,F⟩,G⟩=>by
  obtain⟨r,B,C⟩:=he 10000 hn w S' S w2 w1 k a cs D hk E;rw[<-F] at B;have A:(Op.equal T (e.pk cs) x.key).run P w= .ok r w:=B;cases r with
  |true=>
   have u:=C.1 rfl;simp[Instr.findAsking,A,kp,u]
  |false=>
   have u:¬a=k:=λh=>by grind
   have:=Uc hn he hk w m xs (i+1) G;simp only[Instr.findAsking,Sem.run_bind,A,Result.andThen_ok,mu,M5,this,kp,nS u];cases kp m k<;>grind
 | [],_::_,_,h=>h.elim
 |_::_,[],_,h=>h.elim
theorem KD{α:Type}[DecidableEq α]{n l:Nat}{E:aAg}{P:aA5}{T:aAg}{e:Fu α}(hn:n<=10000)(hT:∀w,(underlying T).run P w= .ok (.array l E) w)(he:oz n P T e){S S':Nat->Prop}{w1 w2:aAf}{k:α}{cs:List aA4}(hk:e.ok k S' w2 cs)(w:aAf)(m:List α)(es:List MapEntry)(h:oy e S w1 m es):(Instr.findKey T (e.pk cs) es).run P w= .ok ((kp m k).bind λj=>(es[j]?).map λx=>(j,x.val)) w:=by
 match m,es,h with
 | [],[],_=>simp[Instr.findKey,hT,Instr.findNow,kp]
 |q::m,x::xs,h=>
  have u:=Uc hn he hk w (q::m) (x::xs) 0 h
  simp_all [aGu,Instr.findKey,Sem.run_bind,Result.andThen_ok,Instr.findNow,Instr.sameNow]
def zh{α:Type}(e:Fu α):Prop:=∀(x:α) (S S':Nat->Prop) (w w':aAf) (v v':aA4),e.val x S w v->e.val x S' w' v'->Instr.sameBits 10000 v v'=true
theorem BR{k:aA7}{S S':Nat->Prop}{w w':aAf}:∀{xs:List Int} {cs ds:List aA4},(Fu.int k).H8 xs S w cs->(Fu.int k).H8 xs S' w' ds->ds=cs/\∀c∈cs,∃n,c= .int k n
 | [],_,_,h,I=>by grind [Fu.H8]
 |x::xs,_,_,⟨c,d,K,u,A⟩,⟨L,M,N,B,C⟩=>by
  obtain⟨F,G⟩:=BR A C;have D:=u.1;have E:=B.1
  grind
theorem zh.arr{k:aA7}{m:Nat}:zh (Fu.arr m (Fu.int k)):=by
 rintro x S G w I v K ⟨cs,h,rfl⟩ ⟨D,E,rfl⟩;obtain⟨rfl,B⟩:=BR h.2 E.2;have C:∀l:List aA4,(∀c∈l,∃n,c= .int k n)->(l.zip l).all (λ(x,y)=>Instr.sameBits 9999 x y)=true:=by
  intro l A;rw[nE];rintro⟨a,b⟩ u;have:a=b:=by
   clear A B
   induction l with
   |nil=>simp at u
   |cons y l F=>
    rcases sK.1 u with h | h
    ·simp only[qe] at h;rw[h.1,h.2]
    ·exact F h
  subst this;obtain⟨n,rfl⟩:=A a (List.of_mem_zip u).1;simp[Instr.sameBits]
 have:=C D B
 simp_all [Fu.pk,Fu.arr,K4,Instr.sameBits,BEq.rfl,aIc]
structure aKe {α κ:Type} (fr:Bool) (ke:Fu κ) (T2:aAg) (e:Fu α) (m:List (κ×List α)) (o:Option Nat) (S:Nat->Prop) (w:aAf) (x:Nat->Prop) (b:Nat) (es:List MapEntry) (ck:Nat):Prop where
 keys:oy ke S w (m.map (·.1)) es
 rows:Rws T2 e (m.map (·.2)) o S w x (some b) (es.map (·.val))
 born:fr=true->ck=es.length/\∀(j:Nat) (q:MapEntry),es[j]? =some q->q.born=j
theorem aKe.mono{α κ:Type}{fr:Bool}{ke:Fu κ}{T2:aAg}{e:Fu α}{m:List (κ×List α)}{o:Option Nat}{S S':Nat->Prop}{w w':aAf}{x x':Nat->Prop}{b:Nat}{es:List MapEntry}{ck:Nat}(h:aKe fr ke T2 e m o S w x b es ck)(hE:Ext S S' w w')(hx:∀b,x b->x' b)(hb:∀b,x b->w'.heap[b]? =w.heap[b]?):aKe fr ke T2 e m o S' w' x' b es ck:=⟨h.keys.mono hE,⟨h.rows.len,λj xs q u B A=>(h.rows.ok j xs q u B A).mono hE (λb C=>hb b (h.rows.own j q b u A C).1),λj q k u B A=>⟨hx _ (h.rows.own j q k u B A).1,(h.rows.own j q k u B A).2⟩,h.rows.inj⟩,h.born⟩
def DE.pq{α κ:Type}(fr:Bool)(ke:Fu κ)(T2:aAg)(e:Fu α):DE (List (κ×List α)×Option Nat) where
 ok q S w u l:=∃b A B,u.v= .map (some b)/\w.heap[b]? =some (.map A B)/\aKe fr ke T2 e q.1 q.2 S w u.x b A.toList B/\∀j,q.2=some j->(A.toList.map (·.val))[j]? =l.head?
 mono:=by
  rintro q S L w M u l ⟨b,A,B,C,F,G,I⟩ K D;exact⟨b,A,B,C,by rw[D b (.inl (by rw[C];rfl))];exact F,G.mono K (λ_ h=>h) (λE h=>D E (.inr h)),I⟩
def Rj{κ α:Type}[DecidableEq κ](m:List (κ×List α))(k:κ):Option (List (κ×List α)×Nat×List α):=if m.length<=140737488355328 then some (match kp (m.map (·.1)) k with | none=>(m++[(k,[])],m.length,[]) | some i=>(m,i,((m[i]?).map (·.2)).getD [])) else none
def vT{κ β:Type}(m:List (κ×β))(i:Nat)(v:β):List (κ×β):=m.modify i λp=>(p.1,v)
theorem KE{κ β:Type}{m:List (κ×β)}{i:Nat}{v:β}:(vT m i v).map (·.1)=m.map (·.1):=by
 apply aF1;grind [vT]
theorem KF{κ β:Type}{m:List (κ×β)}{i:Nat}{v:β}:(vT m i v).map (·.2)=(m.map (·.2)).set i v:=by
 apply aF1;grind [vT,List.length_map]
def Fu.mpF{κ β:Type}(ke:Fu κ)(f:Fu β):Fu (List (κ×β)) where
 n:=1
 agg:=false
 ok m S w cs:=(m=[]/\cs=[.map none])\/∃b u A,cs=[.map (some b)]/\b<w.heap.size/\¬S b/\w.heap[b]? =some (.map u A)/\Xn ke f S w m u.toList
 len h:=by rcases h with⟨_,h⟩|⟨b,u,A,h,_⟩<;>rw[h]<;>rfl
 one _:=rfl
 cell h c hc:=by rcases h with⟨_,h⟩|⟨b,u,A,h,_⟩<;>rw[h] at hc<;>simp at hc<;>subst hc<;>rfl
 mono h k:=by
  rcases h with⟨h,D⟩|⟨b,u,A,E,B,C,F,G⟩
  ·exact .inl ⟨h,D⟩
  ·exact .inr ⟨b,u,A,E,gn B k.size,(k.eh b B C).2,by rw[(k.eh b B C).1];exact F,yC k G⟩
theorem Z.mpF{κ β:Type}(ke:Fu κ)(f:Fu β):∀S w,(Fu.mpF ke f).ok [] S w [.map none]:=λ_ _=> .inl ⟨rfl,rfl⟩
section
variable {d:Option Tmp}{x y z:aAp}{ke:Fu κ}{e:Fu α}{m:List (κ×List α)}{i j:Nat}
theorem Frz.pq{fr:Bool}:Frz (DE.pq fr ke T2 e) (m,none) (Fu.mpF ke (Fu.sl e)) m:=by
 rintro S S' w u ⟨b,K,ck,F,G,⟨h3,L,_⟩,_⟩ M N;have O:∀(B:List (κ×List α)) (el:List MapEntry),oy ke S w (B.map (·.1)) el->(∀(j:Nat) (D:List α) (v:aA4),(B.map (·.2))[j]? =some D->(el.map (·.val))[j]? =some v->K0 T2 e D S w v/\∀b,E2 v=some b->u.x b)->Xn ke (Fu.sl e) S' w B el:=by
  intro B
  induction B with
  |nil=>intro el A _;cases el with
   |nil=>trivial
   |cons q el=>exact A.elim
  |cons q B ih=>
   intro el A h;cases el with
   |nil=>exact A.elim
   |cons v el=>
    obtain⟨I,X⟩:=h 0 q.2 v.val rfl rfl;obtain⟨ab,ac⟩:=A;obtain⟨q1,q2⟩:=q;obtain⟨ad,c,hs⟩:=I.slice;refine⟨fN ab M,⟨[v.val],Qt (ρ:=λ_=> .of undef) (u:= .of v.val) (T:=T2) I M λb E=>N b (.inr (X b (nN.1 E))),by simp[Fu.pk,Fu.sl]⟩,ih el ac λj Q R U C=>h (j+1) Q R (by simpa using U) (by simpa using C)⟩
 have A:=O m K.toList h3 λj D v V C=>⟨L.ok j D v (by simp) V C,λb E=>(L.own j v b (by simp) C E).1⟩;have P:b<w.heap.size:=by
  rcases jl b w.heap.size with h | h
  ·exact h
  ·rw[aEl h] at G;cases G
 refine⟨.inr ⟨b,K,ck,by rw[F],P,N b (.inl (by rw[F];rfl)),G,A⟩,by rw[F];rfl⟩
theorem Ud{T:aAg}(i:Nat)(ke:Fu κ)(T2:aAg)(e:Fu α):JO F ⟨d,.makeMap T none,ty,p,af,gd⟩ O (.ref i) [(i,.dp (DE.pq true ke T2 e) ([],none) [])]:=by
 intro ρ S a w K;refine j6.value (w':=w.alloc (.map #[] 0)) (v:= .map (some w.heap.size)) (by simp[execOp,Instr.makeMap]) ?_;refine wK (.map (some w.heap.size)) (gO _ _) rfl ?_ ?_ ?_
 ·simp[E2,gC]
 ·intro A ρ' h _;exact⟨_,#[],0,rfl,heap_alloc_new _ _,⟨trivial,⟨rfl,λj xs q _ u=>by simp at u,λj q k _ u=>by simp at u,λj B q C k _ _ u=>by simp at u⟩,λ_=>(by grind)⟩,λj h=>by cases h⟩
 ·intro A ρ' _ hi _;simp only[Slot.ok];exact⟨by rw[hi];exact .inr ⟨_,rfl⟩,hi.symm⟩
theorem Yj{β:Type}[DecidableEq κ]{n n' l:Nat}{M KT VT E:aAg}{f:Fu β}{m:List (κ×β)}{k:κ}{u:β}{zv:aA4}(hx:aV O.g x=some (.v (Fu.mpF ke f) m))(hy:aV O.g y=some (.v ke k))(hM:∀w,(underlying M).run F.P w= .ok (.map KT VT) w)(hT:∀w,(underlying KT).run F.P w= .ok (.array l E) w)(he:oz n F.P KT ke)(hn:Nat.ble n 10000=true)(hk:C7 n' F.P KT ke)(fu:Nat.ble n' 10000=true)(hz:∀w,(zeroValue VT).run F.P w= .ok zv w)(yj:∀S w,f.val u S w zv):JO F ⟨d,.lookup M x y false,ty,p,af,gd⟩ O (.v f ((dQ m k).getD u)) []:=by
 intro ρ S a w K;have B:=K.slot x (by simp[Op.operands]) _ hx;have A:=K.slot y (by simp[Op.operands]) _ hy;simp only[Slot.ok] at B A;obtain⟨cs,A,G⟩:=A;obtain⟨ds,B,L⟩:=B;rcases B with⟨rfl,rfl⟩|⟨b,Q,ck,rfl,_,_,V,X⟩
 ·have C:=hk 10000 (gQ fu) true w S w k cs A;refine j6.value (w':=w) (v:=zv) ?_ (y9.same (by simp only[Slot.ok];exact yj _ _));have D:a.eval x= .map none:=L;simp[execOp,D,G,Instr.lookup,hM,C,hz,Instr.findKey,hT,Instr.findNow]
 ·have D:a.eval x= .map (some b):=L;obtain⟨r,N,R,T⟩:=Gk (gQ hn) hT he A w m Q.toList X;have C:=hk 10000 (gQ fu) Q.isEmpty w S w k cs A;have I:=MapKept.run_getObj_map (P:=F.P) V;cases hm:dQ m k with
  |none=>
   have:=R hm;subst this;refine j6.value (w':=w) (v:=zv) ?_ (y9.same (by simp only[Slot.ok];exact yj _ _));simp[execOp,D,G,Instr.lookup,hM,I,C,N,hz]
  |some b'=>
   obtain⟨j,v,rfl,U⟩:=T b' hm;refine j6.value (w':=w) (v:=v) ?_ (y9.same (by simp only[Slot.ok];exact U));simp[execOp,D,G,Instr.lookup,hM,I,C,N]
theorem Ue[DecidableEq κ]{n n' l:Nat}{M KT VT E:aAg}{k:κ}{r:List (κ×List α)×Nat×List α}(j:Nat)(hm:Rj m k=some r)(hx:aV O.g x=some (.ref i))(hd:aF O.d i=some (.dp (DE.pq true ke T2 e) (m,none) []))(hy:aV O.g y=some (.v ke k))(hM:∀w,(underlying M).run F.P w= .ok (.map KT VT) w)(hT:∀w,(underlying KT).run F.P w= .ok (.array l E) w)(he:oz n F.P KT ke)(hn:Nat.ble n 10000=true)(hk:C7 n' F.P KT ke)(fu:Nat.ble n' 10000=true)(ct:zh ke)(hz:∀w,(zeroValue VT).run F.P w= .ok (.slice none 0 0) w)(hf:O.free [(j,.arr T2 e r.2.2)]=true)(J2:eR d F.N=true):JM F ⟨d,.mapEntry M x y,ty,p,af,gd⟩ O ⟨gL d (.q9 [.ref j,.v (Fu.int .i64) (r.2.1:Int)]) O.g,(j,.arr T2 e r.2.2)::(i,.dp (DE.pq true ke T2 e) (r.1,some r.2.1) [j])::O.d⟩:=by
 rintro a w ⟨⟨ρ,hc,hs⟩,N2,G6⟩;have K:=aY hc hs (Op.mapEntry M x y).operands;obtain⟨h1,⟨b,C,ck,h3,h4,B,_⟩,_⟩:=xF K (x:=x) (by simp[Op.operands]) hx hd;have h6:=K.slot y (by simp[Op.operands]) _ hy;simp only[Slot.ok] at h6;have ak:=h6;obtain⟨cs,h6,h7⟩:=h6;have h8:=KD (gQ hn) hT he h6 w (m.map (·.1)) C.toList B.keys;have ay:=hk 10000 (gQ fu) false w _ w k cs h6;have hg:=MapKept.run_getObj_map (P:=F.P) h4;have al:=λo=>MapKept.run_setObj_map (P:=F.P) o h4;have oe:=kB hf (i:=j) (en:= .arr T2 e r.2.2) (by simp[aF]);have U2:j≠i:=λe=>by subst e;rw[oe.2.1] at hd;cases hd
 obtain⟨aq,va⟩:=B.born rfl;have ab:C.toList.length=m.length:=by simpa using B.keys.len
 unfold Rj at hm;split at hm
 case isFalse=>cases hm
 rename_i L8;have hm:=X6 hm;obtain⟨I,ac,v,Y5,ed,bd,a5,X,iv,be⟩:∃(I:Array MapEntry) (ac:Nat) (v:aA4),(execOp a.eval ⟨d,.mapEntry M x y,ty,p,af,gd⟩).run F.P w= .ok (.value (.tuple #[v,.int .i64 (r.2.1:Int)])) { w with heap:=w.heap.setIfInBounds b (.map I ac) }/\
   (∃a c,v= .slice a r.2.2.length c)/\(∀S' w',Ext (Un F.S0 ρ O.d) S' w w'->oy ke S' w' (r.1.map (·.1)) I.toList)/\I.toList.length=r.1.length/\(I.toList.map (·.val))[r.2.1]? =some v/\
   ((v= .slice none 0 0/\r.2.2=[]/\(∀q,q≠r.2.1->r.1[q]? =m[q]?/\(I.toList.map (·.val))[q]? =(C.toList.map (·.val))[q]?))\/(m[r.2.1]?.map (·.2)=some r.2.2/\r.1=m/\I.toList.map (·.val)=C.toList.map (·.val)))/\
   (ac=I.toList.length/\∀(j:Nat) (q:MapEntry),I.toList[j]? =some q->q.born=j):=by
  cases hkp:kp (m.map (·.1)) k with
  |none=>
   rw[hkp] at hm h8;simp only[Option.bind_none] at h8;simp only at hm;subst hm;refine⟨C.push { key:=a.eval y,val:= .slice none 0 0,born:=ck },ck+1,.slice none 0 0,?_,⟨none,0,rfl⟩,?_,?_,?_,.inl ⟨rfl,rfl,λq A=>?_⟩,?_,?_⟩
   ·have:ck=m.length:=(by rw[aq,ab]);simp[execOp,h1,h3,h7,Instr.mapEntry,hM,hg,ay,h8,al,hz,goInt,this]
   ·intro S' w' R;rw[aHa,aF5];exact(B.keys.mono R).push (fN ak R)
   ·simp[ab]
   ·simp[<-ab]
   ·rw[aHa,aF5];have Q:q≠m.length:=A;rcases jl q m.length with h | h
    ·rw[aFx h,aFx (by simpa[ab] using h)];exact⟨rfl,rfl⟩
    ·rw[zy (by simp;omega),zy (by omega),zy (by simp at ab ⊢;omega),zy (by simp at ab ⊢;omega)];exact⟨rfl,rfl⟩
   ·simp[aq]
   ·intro q x A;rw[aHa] at A;rcases jl q C.toList.length with h | h
    ·rw[aFx h] at A;exact va q x A
    ·rw[aHf h] at A;have h0:q - C.toList.length=0:=by
      rcases Nat.eq_zero_or_pos (q - C.toList.length) with h | h
      ·exact h
      ·rw[zy (by simp at h ⊢;omega)] at A;cases A
     rw[h0] at A;simp at A;subst A;show ck=q;omega
  |some q=>
   rw[hkp] at hm h8;simp only at hm;subst hm;obtain⟨k1,k2⟩:=KB hkp;have az:q<m.length:=(by simpa using k1);have k3:q<C.toList.length:=(by omega);have an:q<C.size:=(by simpa using k3);have k5:C.toList[q]? =some C[q]:=(by simp[an]);simp only[cA,k5,aEp] at h8;have k6:C[q]? =some C[q]:=aD8 an;have a7:ke.val k (Un F.S0 ρ O.d) w C[q].key:=B.keys.get k2 k5;have a8:=ct k _ _ _ _ _ _ a7 ak;have D9:(Instr.keyThatStays C[q].key (a.eval y)).run F.P w= .ok (a.eval y) w:=(by simp[Instr.keyThatStays,a8]);have yr:=va q _ k5;have yu:=B.rows.ok q (m[q].2) C[q].val (by simp) (by simp[az]) (by simp[an]);have a0:m[q]? =some m[q]:=sE az;refine⟨C.modify q λe=>{ e with key:=a.eval y },ck,C[q].val,?_,?_,?_,?_,?_,.inr ⟨?_,rfl,?_⟩,?_,?_⟩
   ·simp[execOp,h1,h3,h7,Instr.mapEntry,hM,hg,ay,h8,al,goInt,k6,yr];rw[<-h7,D9];simp[al]
   ·simp only[a0,aEp,aFw];exact yu.slice
   ·intro S' w' R;rw[aGb];exact(B.keys.mono R).modify λk' x a4 U=>by
     rw[k2] at a4;cases a4;exact fN ak R
   ·simpa using ab
   ·rw[aGb,ze,aGv,k5];simp
   ·simp[a0]
   ·rw[aGb];apply aF1;intro T;simp only[ze,aGv];cases C.toList[T]? <;>simp;split<;>rfl
   ·simpa using aq
   ·intro T x' Q;rw[aGb,aGv] at Q;cases U:C.toList[T]? with
    |none=>rw[U] at Q;cases Q
    |some y'=>
     rw[U] at Q;have:=va T y' U;simp only[Option.map_eq_map,aEp,W6] at Q;subst Q;split<;>exact this
 obtain⟨av,cv,I0⟩:=ed;have iu:r.2.1<r.1.length:=by
  rw[<-a5];rcases jl r.2.1 I.toList.length with h | h
  ·exact h
  ·rw[zy (by simpa using h)] at X;cases X
 have a9:zY .i64 (r.2.1:Int):=by
  have:r.1.length<=m.length+1:=by
   rcases iv with⟨_,_,h⟩|⟨_,h,_⟩
   ·rcases jl (m.length+1) r.1.length with D | D
    ·have L:=(h (m.length) );have ad:=(h (m.length+1));by_cases ba:m.length=r.2.1
     ·have:=(ad (by omega)).1;rw[sE D,zy (by omega)] at this;cases this
     ·have:=(L ba).1;rw[sE (by omega),zy (by omega)] at this;cases this
    ·exact D
   ·rw[h];omega
  exact yW (n:=r.2.1) (by omega)
 have M6:=MapKept.heap_set (o':= .map I ac) h4;have pw:J5 (some b) w { w with heap:=w.heap.setIfInBounds b (.map I ac) }:=⟨by simp,λk _ hk=>M6.2 k (λe=>hk (by rw[e])),rfl,rfl,rfl⟩;refine j6.value Y5 ?_;have I1:∀c,E2 v=some c->(ρ i).x c/\c≠b:=by
  intro c u;rcases iv with⟨rfl,_⟩|⟨_,_,h⟩
  ·simp[E2] at u
  ·rw[h] at X;obtain⟨k1,k2⟩:=B.rows.own _ v c (by simp) X u;exact⟨k1,λe=>k2 (by rw[e])⟩
 let ρ':Nat->LV:=λl=>if l=j then .of v else if l=i then ⟨(ρ i).v,λb=>(ρ i).x b/\E2 v≠some b⟩ else ρ l
 have rj:ρ' j= .of v:=sM rfl;have ri:ρ' i=⟨(ρ i).v,λb=>(ρ i).x b/\E2 v≠some b⟩:=by show (if i=j then _ else _)=_;rw[nS (jj U2),sM rfl]
 have S:∀l,l≠j->l≠i->ρ' l=ρ l:=λl h1 h2=>by show (if l=j then _ else _)=_;rw[nS h1,nS h2]
 have rv:∀l,l≠j->(ρ' l).v=(ρ l).v:=λl h1=>by
  by_cases h2:l=i
  ·subst h2;rw[ri]
  ·rw[S l h1 h2]
 have hl:∀l en,aF ((j,.arr T2 e r.2.2)::(i,.dp (DE.pq true ke T2 e) (r.1,some r.2.1) [j])::O.d) l=some en->(l=j/\en= .arr T2 e r.2.2)\/(l=i/\en= .dp (DE.pq true ke T2 e) (r.1,some r.2.1) [j])\/(l≠j/\l≠i/\aF O.d l=some en):=by
  intro l en h;rcases Ed h with h |⟨h0,h⟩
  ·exact .inl h
  ·rcases Ed h with h |⟨B,h⟩
   ·exact .inr (.inl h)
   ·exact .inr (.inr ⟨h0,B,h⟩)
 have I8:∀l en b,aF ((j,.arr T2 e r.2.2)::(i,.dp (DE.pq true ke T2 e) (r.1,some r.2.1) [j])::O.d) l=some en->mS (ρ' l) b->∃l0 E8,aF O.d l0=some E8/\mS (ρ l0) b:=by
  intro l en b h u;rcases hl l en h with⟨rfl,rfl⟩|⟨rfl,rfl⟩|⟨B,h6,h7⟩
  ·rw[rj,nN] at u;exact⟨i,_,hd,.inr (I1 b u).1⟩
  ·rw[ri,Ks] at u;exact⟨l,_,hd,u.imp id And.left⟩
  ·rw[S l B h6] at u;exact⟨l,en,h7,u⟩
 have ao:E2 (ρ i).v=some b:=by rw[h3];rfl
 have ny:∀b,mS (ρ' j) b->mS (ρ' i) b->False:=by
  intro b' u G;rw[rj,nN] at u;rw[ri,Ks] at G;rcases G with G | G
  ·rw[ao] at G;exact(I1 b' u).2 (X6 G).symm
  ·exact G.2 u
 have pv:∀l en b,l≠i->aF O.d l=some en->mS (ρ l) b->¬mS (ρ' j) b/\¬mS (ρ' i) b:=by
  intro l en b a2 ld u;refine⟨λh=>?_,λh=>?_⟩
  ·rw[rj,nN] at h;exact a2 (hc.inj l i en _ b ld hd u (.inr (I1 b h).1))
  ·rw[ri,Ks] at h;exact a2 (hc.inj l i en _ b ld hd u (h.imp id And.left))
 obtain⟨q1,q2⟩:=hc.step pw (λc u=>⟨i,_,hd,.inl (by rw[ao];exact u)⟩) (d':=(j,.arr T2 e r.2.2)::(i,.dp (DE.pq true ke T2 e) (r.1,some r.2.1) [j])::O.d) (ρ':=ρ') (λl en b h u=> .inr (I8 l en b h u)) (by
  intro l l' en ai b h h' u G;rcases hl l en h with⟨rfl,rfl⟩|⟨rfl,rfl⟩|⟨g5,g6,g7⟩<;>rcases hl l' ai h' with⟨rfl,rfl⟩|⟨rfl,rfl⟩|⟨au,ae,aw⟩
  ·rfl
  ·exact(ny b u G).elim
  ·rw[S l' au ae] at G;exact((pv l' ai b ae aw G).1 u).elim
  ·exact(ny b G u).elim
  ·rfl
  ·rw[S l' au ae] at G;exact((pv l' ai b ae aw G).2 u).elim
  ·rw[S l g5 g6] at u;exact((pv l en b g6 g7 u).1 G).elim
  ·rw[S l g5 g6] at u;exact((pv l en b g6 g7 u).2 G).elim
  ·rw[S l g5 g6] at u;rw[S l' au ae] at G;exact hc.inj l l' en ai b g7 aw u G) (by
  intro R l en h;have ct:∀c,c≠b->(w.heap.setIfInBounds b (.map I ac))[c]? =w.heap[c]? :=M6.2;rcases hl l en h with⟨rfl,rfl⟩|⟨rfl,rfl⟩|⟨bg,a6,ax⟩
  ·rw[rj];show K0 T2 e r.2.2 _ _ v;rcases iv with⟨D,L,_⟩|⟨D,_,ad⟩
   ·exact .inl ⟨L,D⟩
   ·rw[ad] at X;refine(B.rows.ok r.2.1 r.2.2 v (by simp) (by simpa using D) X).mono R (λc u=>ct c (I1 c u).2)
  ·rw[ri];refine⟨b,I,ac,h3,M6.1,⟨bd _ _ R,⟨by simp[a5],?_,?_,?_⟩,λ_=>be⟩,λq A=>?_⟩
   ·intro q xs vq ho U A;have mh:q≠r.2.1:=λe=>ho (by rw[e]);have:(m.map (·.2))[q]? =some xs/\(C.toList.map (·.val))[q]? =some vq:=by
     rcases iv with⟨_,_,D⟩|⟨_,D,L⟩
     ·obtain⟨L,ad⟩:=D q mh;rw[ad] at A;rw[ze,L,<-ze] at U;exact⟨U,A⟩
     ·rw[D] at U;rw[L] at A;exact⟨U,A⟩
    exact(B.rows.ok q xs vq (by simp) this.1 this.2).mono R (λc u=>ct c λe=>by
     have:=(B.rows.own q vq c (by simp) this.2 u).2;exact this (by rw[e]))
   ·intro q vq c ho A u;have mh:q≠r.2.1:=λe=>ho (by rw[e]);have Q:(C.toList.map (·.val))[q]? =some vq:=by
     rcases iv with⟨_,_,D⟩|⟨_,D,L⟩
     ·rw[<-(D q mh).2];exact A
     ·rw[<-L];exact A
    obtain⟨k1,k2⟩:=B.rows.own q vq c (by simp) Q u;refine⟨⟨k1,λap=>?_⟩,k2⟩;rcases iv with⟨D,_⟩|⟨_,D,L⟩
    ·rw[D] at ap;simp[E2] at ap
    ·rw[L] at X;exact mh (B.rows.inj q r.2.1 vq v c (by simp) (by simp) Q X u ap)
   ·intro q T vq a3 c ho bc A aj u ka;have mh:q≠r.2.1:=λe=>ho (by rw[e]);have bb:T≠r.2.1:=λe=>bc (by rw[e]);rcases iv with⟨_,_,D⟩|⟨_,D,L⟩
    ·rw[(D q mh).2] at A;rw[(D T bb).2] at aj;exact B.rows.inj q T vq a3 c (by simp) (by simp) A aj u ka
    ·rw[L] at A aj;exact B.rows.inj q T vq a3 c (by simp) (by simp) A aj u ka
   ·have:q=r.2.1:=(by simpa using A.symm);subst this;simp only[V0,aGw,List.head?_cons,rj];exact X
  ·rw[S l bg a6]
   exact j2.j5 (hc.own l en ax) R (λq A=>rv q λe'=>by subst e';exact oe.2.2 l en ax A) (λc u=>ct c λe=>a6 (hc.inj l i en _ c ax hd u (.inl (by rw[ao,e])))))
 refine⟨⟨ρ',q1,λt s' V=>?_⟩,by rw[kC,N2],by cases d<;>exact G6⟩;have a1:∀t s,lk O.g t=some s->s.ok ρ' (Un F.S0 ρ' ((j,.arr T2 e r.2.2)::(i,.dp (DE.pq true ke T2 e) (r.1,some r.2.1) [j])::O.d)) _ (a.tmps.getD t undef):=λt s V=>
  Slot.j5 s _ (hs t s V) q2 (λq A=>rv q λe'=>oe.1 t s V (e' ▸ A))
 cases d with
 |none=>exact a1 t s' V
 |some q=>
  simp only[gL] at V;have B0:q<a.tmps.size:=by rw[N2];exact gQ J2
  rw[kD a q _ t B0];rw[kF] at V;split at V
  ·rename_i B;cases V;rw[sM B];simp only[Slot.ok];refine⟨[v,.int .i64 (r.2.1:Int)],rfl,v,[.int .i64 (r.2.1:Int)],rfl,?_,_,[],rfl,?_,rfl⟩
   ·simp only[Slot.ok];exact⟨by rw[rj];exact .inl ⟨_,_,_,I0⟩,by rw[rj];rfl⟩
   ·simp only[Slot.ok];exact lG.2 ⟨rfl,a9⟩
  ·rename_i B;rw[nS B];exact a1 t s' V
theorem RL[DecidableEq κ]{k:κ}{r:List (κ×List α)×Nat×List α}(h:Rj m k=some r):r.2.1<r.1.length:=by
 unfold Rj at h;split at h
 ·have h:=X6 h;cases hk:kp (m.map (·.1)) k with
  |none=>rw[hk] at h;subst h;simp
  |some q=>rw[hk] at h;subst h;have:=(KB hk).1;simpa using this
 ·cases h
theorem Nj{M:aAg}{ys:List α}{q:Nat}{ls:List Nat}(hq:q<m.length)(hx:aV O.g x=some (.ref i))(hd:aF O.d i=some (.dp (DE.pq true ke T2 e) (m,some q) ls))(hy:aV O.g y=some (.v (Fu.int .i64) (q:Int)))(hz:aV O.g z=some (.ref j))(hj:aF O.d j=some (.arr T2 e ys))(G4:Nat.beq i j=false):JM F ⟨none,.entryStore M x y z,ty,p,af,gd⟩ O ⟨O.g,(i,.dp (DE.pq true ke T2 e) (vT m q ys,none) [])::rC O.d j⟩:=by
 have U2:i≠j:=λe=>by subst e;simp at G4
 rintro a w ⟨⟨ρ,I,hs⟩,N2,G6⟩;have K:=aY I hs (Op.entryStore M x y z).operands;obtain⟨h1,⟨b,E,ck,h3,h4,N,_⟩,_⟩:=xF K (x:=x) (by simp[Op.operands]) hx hd;have h6:=(dC K (x:=y) (by simp[Op.operands]) hy).1;obtain⟨h7,yu,_⟩:=xF K (x:=z) (by simp[Op.operands]) hz hj;have yu:K0 T2 e ys (Un F.S0 ρ O.d) w (ρ j).v:=yu;obtain⟨av,va⟩:=N.born rfl;have an:E.toList.length=m.length:=by simpa using N.keys.len
 have U:q<E.size:=by
  have:E.toList.length=E.size:=by simp
  omega
 have hg:=MapKept.run_getObj_map (P:=F.P) h4;have ao:=λo=>MapKept.run_setObj_map (P:=F.P) o h4;have yr:∀(j:Nat) (h:j<E.size),E[j].born=j:=λj h=>va j _ (by simp[h]);have ap:E.findIdx? (λe=>(e.born:Int)==(q:Int))=some q:=by
  rw[Array.findIdx?_eq_some_iff_getElem];exact⟨U,by simp[yr q U],λj hj=>by simp[yr j (by omega)];omega⟩
 obtain⟨Q,ab⟩:∃Q,Q=E.modify q λe=>{ e with val:=(ρ j).v }:=⟨_,rfl⟩;have Y5:(execOp a.eval ⟨none,.entryStore M x y z,ty,p,af,gd⟩).run F.P w= .ok .skip { w with heap:=w.heap.setIfInBounds b (.map Q ck) }:=by
  simp only[execOp,h1,h3,h6,h7,Instr.entryStore,Sem.run_bind,hg,Result.andThen_ok,asInt,asIntOf,Sem.run_pure,ap,ao,ab]
 have ac:Q.toList.map (·.val)=(E.toList.map (·.val)).set q (ρ j).v:=by
  rw[ab,aGb];apply aF1;intro B;simp only[ze,aGv,aHv,sv];by_cases L:B<E.toList.length
  ·rw[sE L];by_cases hi:q=B<;>simp[hi];omega
  ·rw[zy (by omega)];by_cases hi:q=B<;>simp[hi];simp at L;omega
 have aq:∀S' w',oy ke S' w' (m.map (·.1)) E.toList->oy ke S' w' (m.map (·.1)) Q.toList:=by
  intro S' w' h;rw[ab,aGb];refine oy.modify h λk x hk C=>?_;have:=h.get hk C;exact this
 have M6:=MapKept.heap_set (o':= .map Q ck) h4;have pw:J5 (some b) w { w with heap:=w.heap.setIfInBounds b (.map Q ck) }:=⟨by simp,λk _ hk=>M6.2 k (λe=>hk (by rw[e])),rfl,rfl,rfl⟩;have ad:E2 (ρ i).v=some b:=by rw[h3];rfl
 have aj:∀c,mS (ρ j) c->c≠b:=λc lj e=>U2 (I.inj i j _ _ c hd hj (.inl (by rw[ad,e])) lj);refine j6.skip Y5 ?_;let ρ':Nat->LV:=λl=>if l=i then ⟨(ρ i).v,λb=>(ρ i).x b\/mS (ρ j) b⟩ else ρ l
 have ri:ρ' i=⟨(ρ i).v,λb=>(ρ i).x b\/mS (ρ j) b⟩:=sM rfl;have S:∀l,l≠i->ρ' l=ρ l:=λl h=>nS h;have rv:∀l,(ρ' l).v=(ρ l).v:=λl=>by
  by_cases h2:l=i
  ·subst h2;rw[ri]
  ·rw[S l h2]
 have hl:∀l A,aF ((i,.dp (DE.pq true ke T2 e) (vT m q ys,none) [])::rC O.d j) l=some A->(l=i/\A= .dp (DE.pq true ke T2 e) (vT m q ys,none) [])\/(l≠i/\l≠j/\aF O.d l=some A):=by
  intro l A h;rcases Ed h with h |⟨h0,h⟩
  ·exact .inl h
  ·rw[Dx] at h;split at h
   ·cases h
   ·rename_i h6;exact .inr ⟨h0,h6,h⟩
 have I8:∀l A b,aF ((i,.dp (DE.pq true ke T2 e) (vT m q ys,none) [])::rC O.d j) l=some A->mS (ρ' l) b->∃l0 E8,aF O.d l0=some E8/\mS (ρ l0) b:=by
  intro l A b h u;rcases hl l A h with⟨rfl,rfl⟩|⟨h6,_,h7⟩
  ·rw[ri,Ks] at u;rcases u with u | u | u
   ·exact⟨l,_,hd,.inl u⟩
   ·exact⟨l,_,hd,.inr u⟩
   ·exact⟨j,_,hj,u⟩
  ·rw[S l h6] at u;exact⟨l,A,h7,u⟩
 have iv:∀l A b,l≠i->l≠j->aF O.d l=some A->mS (ρ l) b->¬mS (ρ' i) b:=by
  intro l A b ak au ld u h;rw[ri,Ks] at h;rcases h with h | h | h
  ·exact ak (I.inj l i A _ b ld hd u (.inl h))
  ·exact ak (I.inj l i A _ b ld hd u (.inr h))
  ·exact au (I.inj l j A _ b ld hj u h)
 obtain⟨X,q2⟩:=I.step pw (λc u=>⟨i,_,hd,.inl (by rw[ad];exact u)⟩) (d':=(i,.dp (DE.pq true ke T2 e) (vT m q ys,none) [])::rC O.d j) (ρ':=ρ') (λl A b h u=> .inr (I8 l A b h u)) (by
  intro l l' A ae b g g' u C1;rcases hl l A g with⟨rfl,rfl⟩|⟨g6,g7,g8⟩<;>rcases hl l' ae g' with⟨rfl,rfl⟩|⟨ai,aw,al⟩
  ·rfl
  ·rw[S l' ai] at C1;exact(iv l' ae b ai aw al C1 u).elim
  ·rw[S l g6] at u;exact(iv l A b g6 g7 g8 u C1).elim
  ·rw[S l g6] at u;rw[S l' ai] at C1;exact I.inj l l' A ae b g8 al u C1) (by
  intro hE l A g;have ct:∀c,c≠b->(w.heap.setIfInBounds b (.map Q ck))[c]? =w.heap[c]? :=M6.2;rcases hl l A g with⟨rfl,rfl⟩|⟨g6,g7,g8⟩
  ·rw[ri];refine⟨b,Q,ck,h3,M6.1,⟨?_,⟨?_,λB xs v _ C D=>?_,λB v c _ D u=>?_,λX q2 v1 v2 c _ _ H9 T cz ka=>?_⟩,λ_=>⟨by rw[ab];simpa using av,λB x' L=>?_⟩⟩,λq hq=>by cases hq⟩
   ·show oy ke _ _ ((vT m q ys).map (·.1)) _;rw[KE];exact aq _ _ (N.keys.mono hE)
   ·rw[ac];simp[vT];simpa using an
   ·have C:((vT m q ys).map (·.2))[B]? =some xs:=C;rw[KF] at C;rw[ac] at D;by_cases R:B=q
    ·subst R;have V:xs=ys:=(by simpa[aHv,hq] using C.symm);have G:v=(ρ j).v:=by
      rw[aGm (by simpa using U)] at D;exact(X6 D).symm
     subst V;subst G;exact yu.mono hE (λc u=>ct c (aj c (.inl u)))
    ·rw[aEu (jj R)] at C D;refine(N.rows.ok B xs v (by simpa using λe=>R e.symm) C D).mono hE (λc u=>ct c λe=>?_);exact(N.rows.own B v c (by simpa using λe=>R e.symm) D u).2 (by rw[e])
   ·rw[ac] at D;by_cases R:B=q
    ·subst R;rw[aGm (by simpa using U)] at D;have G:=X6 D;subst G;exact⟨.inr (.inl u),λe=>aj c (.inl u) (X6 e).symm⟩
    ·rw[aEu (jj R)] at D;obtain⟨k1,k2⟩:=N.rows.own B v c (by simpa using λe=>R e.symm) D u;exact⟨.inl k1,k2⟩
   ·rw[ac] at H9 T;by_cases V:X=q
    ·subst V;rw[aGm (by simpa using U)] at H9;have e3:=X6 H9;subst e3;by_cases G:q2=X
     ·exact G.symm
     ·rw[aEu (jj G)] at T;obtain⟨k1,_⟩:=N.rows.own q2 v2 c (by simpa using λe=>G e.symm) T ka;exact(U2 (I.inj l j _ _ c hd hj (.inr k1) (.inl cz))).elim
    ·rw[aEu (jj V)] at H9;by_cases G:q2=q
     ·subst G;rw[aGm (by simpa using U)] at T;have e3:=X6 T;subst e3;obtain⟨k1,_⟩:=N.rows.own X v1 c (by simpa using λe=>V e.symm) H9 cz;exact(U2 (I.inj l j _ _ c hd hj (.inr k1) (.inl ka))).elim
     ·rw[aEu (jj G)] at T;exact N.rows.inj X q2 v1 v2 c (by simpa using λe=>V e.symm) (by simpa using λe=>G e.symm) H9 T cz ka
   ·rw[ab,aGb,aGv] at L;cases C:E.toList[B]? with
    |none=>rw[C] at L;cases L
    |some y'=>
     rw[C] at L;have:=va B y' C;simp only[Option.map_eq_map,aEp,W6] at L;subst L;split<;>exact this
  ·rw[S l g6]
   exact j2.j5 (I.own l A g8) hE (λq _=>rv q) (λc u=>ct c λe=>g6 (I.inj l i A _ c g8 hd u (.inl (by rw[ad,e])))))
 exact⟨⟨ρ',X,λt s ht=>Slot.j5 s _ (hs t s ht) q2 (λq _=>rv q)⟩,N2,G6⟩
end
section
variable {its:List E4}{d:Option Tmp}{x y z:aAp}{ke:Fu κ}{e:Fu α}{m:List (κ×List α)}{i:Nat}
theorem E9.mapEntry[DecidableEq κ]{n n' l:Nat}{M KT VT E:aAg}{k:κ}{r:List (κ×List α)×Nat×List α}(g:GK ops O.g ⟨d,.mapEntry M x y,ty,p,af,gd⟩ true)(j:Nat)(hm:Rj m k=some r)(hx:aV O.g x=some (.ref i))(hd:aF O.d i=some (.dp (DE.pq true ke T2 e) (m,none) []))(hy:aV O.g y=some (.v ke k))(hM:∀w,(underlying M).run F.P w= .ok (.map KT VT) w)(hT:∀w,(underlying KT).run F.P w= .ok (.array l E) w)(he:oz n F.P KT ke)(hn:Nat.ble n 10000=true)(hk:C7 n' F.P KT ke)(fu:Nat.ble n' 10000=true)(ct:zh ke)(hz:∀w,(zeroValue VT).run F.P w= .ok (.slice none 0 0) w)(_:O.free [(j,.arr T2 e r.2.2)]=true)(J2:eR d F.N=true)(k:E9 F ops OK os ⟨gL d (.q9 [.ref j,.v (Fu.int .i64) (r.2.1:Int)]) O.g,(j,.arr T2 e r.2.2)::(i,.dp (DE.pq true ke T2 e) (r.1,some r.2.1) [j])::O.d⟩ its O'):E9 F ops OK (⟨d,.mapEntry M x y,ty,p,af,gd⟩::os) O (⟨.q9 [.ref j,.v (Fu.int .i64) (r.2.1:Int)],[(j,.arr T2 e r.2.2),(i,.dp (DE.pq true ke T2 e) (r.1,some r.2.1) [j])],[(j,.arr T2 e r.2.2)],Bv O.g ⟨d,.mapEntry M x y,ty,p,af,gd⟩,[]⟩::its) O':=
 .mv (nw:=[(j,.arr T2 e r.2.2),(i,.dp (DE.pq true ke T2 e) (r.1,some r.2.1) [j])]) (dl:=[]) g J2 (λσ2 u A=>Ue j hm ((u.ev (by simp[Op.operands])).trans hx) ((u.U4 (x:=x) (by simp[Op.operands]) hx (by simp[Slot.E1])).trans hd) ((u.ev (by simp[Op.operands])).trans hy) hM hT he hn hk fu ct hz A J2) k
end
def jQ:Fu Unit where
 n:=0
 agg:=true
 ok _ _ _ cs:=cs=[]
 len h:=by rw[h];rfl
 one h:=by cases h
 cell h c hc:=by rw[h] at hc;simp at hc
 mono h _:=h
theorem Kx{F:w8}{O:AS}{o:aBa}{new:List (Nat×j2)}(h:JO F o O (.agg []) new):JO F o O (.v jQ ()) new:=by
 intro ρ S a w K;refine(h ρ S a w K).mono ?_;rintro v G ⟨ρ',B,C,D,E⟩;refine⟨ρ',B,C,?_,E⟩;obtain⟨cs,u,A⟩:=D;subst A;exact⟨[],rfl,u⟩
def RM:Fu Unit where
 n:=1
 agg:=false
 ok _ _ _ cs:=cs=[.nilIface]
 len h:=by rw[h];rfl
 one _:=rfl
 cell h c hc:=by rw[h] at hc;simp at hc;subst hc;rfl
 mono h _:=h
def uW{α β:Type}(T:aAg)(e:Fu α)(r:Fu β)(hn:r.n=1)(_ha:r.agg=false):Fu (α ⊕ β) where
 n:=1
 agg:=false
 ok q S w cs:=match q with | .inl x=>∃u,cs=[.iface T (e.pk u)]/\e.ok x S w u | .inr y=>r.ok y S w cs
 len {q S w cs} h:=by
  cases q with
  |inl x=>obtain⟨u,h,_⟩:=h;rw[h];rfl
  |inr y=>rw[r.len h,hn]
 one _:=rfl
 cell {q S w cs} h:=by
  cases q with
  |inl x=>obtain⟨u,h,_⟩:=h;intro c A;rw[h] at A;simp at A;subst A;rfl
  |inr y=>exact r.cell h
 mono {q S S' w w' cs} h k:=by
  cases q with
  |inl x=>obtain⟨u,h,B⟩:=h;exact⟨u,h,e.mono B k⟩
  |inr y=>exact r.mono h k
def vr{α β:Type}(T:aAg)(e:Fu α)(z:α)(f:Fu β)(q:β):Prop:=∀S w v,e.val z S w v->f.val q S w (.iface T v)
theorem vr.here{α β:Type}{T:aAg}{e:Fu α}{z:α}{r:Fu β}{hn:r.n=1}{ha:r.agg=false}:vr T e z (uW T e r hn ha) (.inl z):=by
 rintro S w v ⟨cs,h,rfl⟩;exact⟨_,⟨cs,rfl,h⟩,rfl⟩
theorem vr.there{α β γ:Type}{T T':aAg}{e:Fu α}{e':Fu γ}{z:α}{r:Fu β}{hn:r.n=1}{ha:r.agg=false}{q:β}(h:vr T e z r q):vr T e z (uW T' e' r hn ha) (.inr q):=by
 intro S w v u;obtain⟨cs,A,B⟩:=h S w v u;exact⟨cs,A,by grind [Fu.pk,uW]⟩
section
variable {d:Option Tmp}{x:aAp}
theorem Ee{α β:Type}{T:aAg}{fs:Array aA8}{e:Fu α}{z:α}{f:Fu β}{q:β}(hx:aV O.g x=some (.v e z))(hT:∀w,(underlying T).run F.P w= .ok (.struct fs) w)(hI:vr T e z f q):JO F ⟨d,.makeInterface T x,ty,p,af,gd⟩ O (.v f q) []:=by
 intro ρ S a w K;have u:=K.slot x (by simp[Op.operands]) _ hx;refine j6.value ?_ (y9.same (hI _ _ _ u));simp[execOp,Instr.makeInterface,hT]
end
def S8{β:Type}(P:aA5)(name:String)(f:Fu β)(q:β)(ss:List Slot)(res:Slot)(new:List (Nat×j2)):Prop:=∀S w v,f.val q S w v->∃T u g s0,v= .iface T u/\(∀w,(method (P.types.size+Made.depth) T u name).run P w= .ok (g,u) w)/\(∀args w,(callFunc g args).run P w= .ok (.enter g args) w)/\(∀ρ,Slot.ok ρ S w s0 u)/\O4 P g (s0::ss) res new
section
variable {P:aA5}{name:String}{ss:List Slot}
theorem S8.here{α β:Type}{T:aAg}{g:aA6}{e:Fu α}{z:α}{r:Fu β}{hn:r.n=1}{ha:r.agg=false}(hm:∀u w,(method (P.types.size+Made.depth) T u name).run P w= .ok (g,u) w)(hc:∀args w,(callFunc g args).run P w= .ok (.enter g args) w)(h:O4 P g (.v e z::ss) res new):S8 P name (uW T e r hn ha) (.inl z) ss res new:=by
 rintro S w v ⟨cs,⟨A,rfl,B⟩,rfl⟩;exact⟨T,e.pk A,g,.v e z,rfl,hm _,hc,λρ=>⟨A,B,rfl⟩,h⟩
theorem S8.there{β γ:Type}{T':aAg}{e':Fu γ}{r:Fu β}{hn:r.n=1}{ha:r.agg=false}{q:β}(h:S8 P name r q ss res new):S8 P name (uW T' e' r hn ha) (.inr q) ss res new:=by
 rintro S w v ⟨cs,u,rfl⟩;exact h S w _ ⟨cs,u,by grind [Fu.pk,uW]⟩
end
section
variable {d:Option Tmp}{x:aAp}
theorem FB{β:Type}{name:String}{f:Fu β}{q:β}{xs:List aAp}{ts:Array aAg}{ss:List Slot}{res:Slot}(hx:aV O.g x=some (.v f q))(hc:S8 F.P name f q ss res [])(ha:W7 O false xs ss):JO F ⟨d,.call ⟨.invoke x name,xs.toArray,ts⟩,ty,p,af,gd⟩ O res []:=by
 intro ρ S a w K;have A:=K.slot x (by simp[Op.operands,Call.operands]) _ hx;simp only[Slot.ok] at A;obtain⟨T,u,g,M,D,E,G,I,L⟩:=hc _ _ _ A;have B:=ha.spec (ys:=(Op.call ⟨.invoke x name,xs.toArray,ts⟩).operands) (by intro x hx;simp[Op.operands,Call.operands,hx]) K;have C:(execOp a.eval ⟨d,.call ⟨.invoke x name,xs.toArray,ts⟩,ty,p,af,gd⟩).run F.P w= .ok (.enter g (u::xs.map a.eval).toArray) w:=by
  simp[execOp,resolve,D,invoke,callMethod,E,G];exact aFh (by simp)
 refine j6.enter C ?_;refine(L S w _ ρ K.low (by simp only[aG];exact⟨u,_,rfl,I ρ,B⟩)).mono ?_;simp
end
def lJ{α β:Type}(o:Option α)(n:Option β)(s:α->Option β):Option β:=match o with | none=>n | some z=>s z
theorem Rk{α β:Type}{o:Option α}{n:Option β}{s:α->Option β}{r:β}(h:o=none)(k:lJ o n s=some r):n=some r:=by subst h;exact k
theorem Rl{α β:Type}{o:Option α}{n:Option β}{s:α->Option β}{r:β}{z:α}(h:o=some z)(k:lJ o n s=some r):s z=some r:=by subst h;exact k
section
variable {d:Option Tmp}{x:aAp}
theorem FC{i off:Nat}{T T' E:aAg}(hx:aV O.g x=some (.ptr i off))(hT:∀w,(underlying T).run F.P w= .ok (.pointer E) w):JO F ⟨d,.binOp .eql T x (.const (.pointer none)) T',ty,p,af,gd⟩ O (.v Fu.bool false) []:=by
 intro ρ S a w K;have h:=K.slot x (by simp[Op.operands]) _ hx;obtain⟨⟨b,B⟩,C⟩:=h;obtain⟨u,D,G⟩:∃u:Option aBc,a.eval x= .pointer u/\u.isNone=false:=⟨some ⟨b,off,none⟩,by rw[C,B];rfl,rfl⟩;have A:=tJ (P:=F.P) w T E u hT;rw[G] at A;refine j6.value (w':=w) ?_ (y9.same (iA _ ρ S w));exact Ip (.inl ⟨rfl,rfl⟩) D rfl (by intros;simp) (by intros;simp) (by intros;simp) (by intros;simp) (rfl) A
end
section
variable {σ2:AS}{its:List E4}{d:Option Tmp}{o:aBa}
theorem Arg.loc{x:aAp}{s:Slot}{l:Bool}(h:Arg O l x s)(hL:Loc ops o O σ2)(hm:x∈o.op.operands):Arg σ2 l x s:=λρ S a w K=>
 h ρ S a w ⟨K.low,λy A s u=>K.slot y A s (by
  have:y=x:=by grind
  subst this;rw[hL.ev hm];exact u),λy A s u i B C D=>K.U4 y A s (by
   have:y=x:=by grind
   subst this;rw[hL.ev hm];exact u) i B C (by
    have:y=x:=by grind
    subst this;rw[hL.U4 hm u B];grind)⟩
theorem T4.loc{r:Nat->Nat}{xs:List aAp}{l:List Slot}(h:T4 O r xs l)(hL:Loc ops o O σ2)(hm:∀x∈xs,x∈o.op.operands):T4 σ2 r xs l:=by
 induction h with
 |nil=>exact .nil
 |cons u _ A=>exact .cons (u.loc hL (hm _ kg)) ((by grind))
theorem T3.loc{r A:Nat->Nat}{ds:List (Nat×j2)}(h:T3 O r A ds)(hd:∀l∈ds.map (λx=>r x.1),aF σ2.d l=aF O.d l):T3 σ2 r A ds:=by
 induction h with
 |nil=>exact .nil
 |box u _ B=>exact .box (by rw[hd _ (by simp)];exact u) (B λl C=>(by grind))
 |arr u _ B=>exact .arr (by simp_all) ((by grind))
 |mp u _ B=>exact .mp (by grind) ((by simp_all))
 |dp u _ B=>exact .dp (by rw[hd _ (by simp)];exact u) (B λl C=>hd l (by grind))
theorem G2.loc{r A:Nat->Nat}{ds D:List (Nat×j2)}{K:List Nat}(h:G2 O r A ds D K)(hd:∀l∈K,aF σ2.d l=aF O.d l):G2 σ2 r A ds D K:=by
 induction h with
 |nil=>exact .nil
 |box C _ u B=>exact .box (by rw[hd _ kg];omega) ((by grind)) u
 | Z0 _ u B=>exact .Z0 (B hd) u
 |arr _ u B=>exact .arr (B hd) u
 |mp _ u B=>exact .mp (B hd) u
 |dp _ u B=>exact .dp (B hd) u
 |dh C E _ u B=>exact .dh (by grind) E ((by grind)) u
theorem E9.M0{f:aA6}{xs:List aAp}{ts:Array aAg}{ss:List Slot}{res:Slot}{C5 u5:(Nat->Nat)->List (Nat×j2)}{D:List (Nat×j2)}{K H:List Nat}(g:GK ops O.g ⟨d,.call ⟨.value (.func f),xs.toArray,ts⟩,ty,p,af,gd⟩ true)(r:Nat->Nat)(hr:∀i j,r i=r j->i=j)(hc:∀A,A3 F.P f ss (C5 A) res (u5 A))(B5:∀args w,(callFunc f args).run F.P w= .ok (.enter f args) w)(ha:T4 O r xs ss)(T7:∀A,T3 O r A (C5 A))(V8:∀A,G2 O r A (u5 A) D K)(hH:∀A,(C5 A).map (λx=>r x.1)=H)(hDK:D.all (λx=> !dK x.1 H || dK x.1 K)=true)(_:Ko O H D=true)(D6:∀A,gH res (u5 A)=true)(xu:K.all (λk=>dK k H)=true)(J2:eR d F.N=true)(k:E9 F ops OK os ⟨gL d (res.map r) O.g,D++gS O.d H⟩ its O'):E9 F ops OK (⟨d,.call ⟨.value (.func f),xs.toArray,ts⟩,ty,p,af,gd⟩::os) O (⟨res.map r,D,D.filter (λx=> !dK x.1 H),Bv O.g ⟨d,.call ⟨.value (.func f),xs.toArray,ts⟩,ty,p,af,gd⟩++H,H⟩::its) O':=by
 refine .mvx (nw:=D) (fr:=D.filter (λx=> !dK x.1 H)) (dl:=H) (ex:=H) g J2 (λσ2 R M S=>?_) k;have Q:∀x∈D,dK x.1 H=true->dK x.1 K=true:=λx u G=>by
  have:=nE.1 hDK x u;simpa[G] using this
 refine vA r hr hc B5 (ha.loc R λx u=>by simp[Op.operands,Call.operands,u]) (λA=>(T7 A).loc λl C=>M l (by rw[<-hH A];exact C)) (λA=>(V8 A).loc λl C=>M l (iD.1 (nE.1 xu l C))) hH ?_ ?_ D6 xu J2
 ·have I:∀l,(!dK l H || dK l K || !dK l (D.map (·.1)))=true:=by
   intro l;cases B:dK l H with
   |false=>simp
   |true=>
    cases h2:dK l (D.map (·.1)) with
    |false=>simp
    |true=>
     obtain⟨x,u,rfl⟩:=ot.1 (iD.1 h2);simp[Q x u B]
  unfold xT;simp only[bm,nE];exact⟨λy _ l _=>I l,λy _ l _=>I l⟩
 ·unfold Ko;rw[nE];intro x u;cases G:dK x.1 H with
  |true=>simp
  |false=>
   have B:=nE.1 S x (aFg.2 ⟨u,by simp[G]⟩);simp only[bm,nE] at B;have L:∀l:List Nat,(!l.contains x.1)=true->(!dK x.1 l)=true:=by
    intro l C;cases h2:dK x.1 l with
    |false=>rfl
    |true=>have:=iD.1 h2;simp at C;exact absurd this C
   simp only[aGd,bm,nE];exact .inr ⟨λy E=>⟨(B.2 y E).1,L _ (B.2 y E).2⟩,λy E=>L _ (B.1 y E)⟩
end
def Gp{κ β:Type}[DecidableEq κ](m:List (κ×β))(k:κ):List (κ×β):=match kp (m.map (·.1)) k with | some q=>m.eraseIdx q | none=>m
section
variable {d:Option Tmp}{x y z:aAp}{ke:Fu κ}{e:Fu α}{m:List (κ×List α)}{i j:Nat}{fr:Bool}
end
section
variable {its:List E4}{d:Option Tmp}{x y:aAp}{ke:Fu κ}{e:Fu α}{m:List (κ×List α)}{i:Nat}{fr:Bool}
end
def Fu.O3(a:Nat):Fu Unit where
 n:=1
 agg:=false
 ok _ _ _ cs:=cs=[.pointer (some ⟨a,0,none⟩)]
 len h:=by rw[h];rfl
 one _:=rfl
 cell h c hc:=by rw[h] at hc;simp at hc;subst hc;rfl
 mono h _:=h
def Fu.pt{α:Type}(e:Fu α):Fu α where
 n:=1
 agg:=false
 ok x S w cs:=∃b u A,cs=[.pointer (some ⟨b,u,none⟩)]/\b<w.heap.size/\¬S b/\r8 w b u A/\e.ok x S w A
 len h:=by obtain⟨b,u,A,h,_⟩:=h;rw[h];rfl
 one _:=rfl
 cell h c hc:=by obtain⟨b,u,A,h,_⟩:=h;rw[h] at hc;simp at hc;subst hc;rfl
 mono h k:=by
  obtain⟨b,u,A,D,B,C,E,F⟩:=h;exact⟨b,u,A,D,gn B k.size,(k.eh b B C).2,E.mono B C k,e.mono F k⟩
def Fu.iz{α β:Type}(g:Nat)(ef:Fu α)(ec:Fu β):Fu (α×β) where
 n:=1
 agg:=false
 ok q S w cs:=∃u A,cs=[.func (.func g) u.toArray A.toArray]/\ef.ok q.1 S w u/\ec.ok q.2 S w A
 len h:=by obtain⟨u,A,h,_⟩:=h;rw[h];rfl
 one _:=rfl
 cell h c hc:=by obtain⟨u,A,h,_⟩:=h;rw[h] at hc;simp at hc;subst hc;rfl
 mono h k:=by obtain⟨u,A,h,B,C⟩:=h;exact⟨u,A,h,ef.mono B k,ec.mono C k⟩
def pG{α β:Type}(f:Fu α)(r:Fu β)(h1:f.n=1)(_h2:f.agg=false)(h3:r.n=1)(_h4:r.agg=false):Fu (α ⊕ β) where
 n:=1
 agg:=false
 ok q S w cs:=match q with | .inl x=>f.ok x S w cs | .inr y=>r.ok y S w cs
 len {q S w cs} h:=by
  cases q with
  |inl x=>rw[f.len h,h1]
  |inr y=>rw[r.len h,h3]
 one _:=rfl
 cell {q S w cs} h:=by
  cases q with
  |inl x=>exact f.cell h
  |inr y=>exact r.cell h
 mono {q S S' w w' cs} h k:=by
  cases q with
  |inl x=>exact f.mono h k
  |inr y=>exact r.mono h k
def xg{α β:Type}(e:Fu α)(z:α)(f:Fu β)(q:β):Prop:=∀S w v,e.val z S w v->f.val q S w v
theorem xg.self{α:Type}{e:Fu α}{z:α}:xg e z e z:=λ_ _ _ h=>h
theorem xg.l{α β γ:Type}{e:Fu γ}{z:γ}{f:Fu α}{r:Fu β}{h1:f.n=1}{h2:f.agg=false}{h3:r.n=1}{h4:r.agg=false}{q:α}(h:xg e z f q):xg e z (pG f r h1 h2 h3 h4) (.inl q):=by
 intro S w v u;obtain⟨cs,A,B⟩:=h S w v u;exact⟨cs,A,by grind [Fu.pk,pG]⟩
theorem xg.r{α β γ:Type}{e:Fu γ}{z:γ}{f:Fu α}{r:Fu β}{h1:f.n=1}{h2:f.agg=false}{h3:r.n=1}{h4:r.agg=false}{q:β}(h:xg e z r q):xg e z (pG f r h1 h2 h3 h4) (.inr q):=by
 intro S w v u;obtain⟨cs,A,B⟩:=h S w v u;exact⟨cs,A,by grind [Fu.pk,pG]⟩
section
variable {d:Option Tmp}{x y z:aAp}
def ow{α:Type}(O:AS)(xs:List aAp)(e:Fu α)(v:α):Prop:=∀ρ S a w,M4 O xs.toArray ρ S a w->e.ok v S w (xs.map a.eval)
theorem ow.nil:ow O [] jQ ():=λ_ _ _ _ _=>rfl
theorem ow.O3{i c:Nat}{T:aAg}{l:List Slot}(hx:aV O.g x=some (.ptr i 0))(he:aF O.d i=some (.box T l (some c))):ow O [x] (Fu.O3 c) ():=by
 intro ρ S a w K;have h:=K.slot x (by simp) _ hx;obtain⟨⟨b,C⟩,B⟩:=h;have u:=(K.U4 x (by simp) _ hx i (by simp[Slot.E1]) _ he).1;have A:=u.2 c rfl;show [a.eval x]=_;rw[B,A];rfl
theorem ow.B8{α:Type}{e:Fu α}{v:α}(hx:aV O.g x=some (.B8 e v)):ow O [x] (Fu.pt e) v:=by
 intro ρ S a w K;have h:=K.slot x (by simp) _ hx;obtain⟨b,u,A,C,B⟩:=h;exact⟨b,u,A,by grind,B⟩
theorem ow.cons{α β:Type}{e:Fu α}{e':Fu β}{v:α}{v':β}{xs:List aAp}(h:ow O [x] e v)(k:ow O xs e' v'):ow O (x::xs) (Fu.pr e e') (v,v'):=by
 intro ρ S a w K
 exact⟨[a.eval x],xs.map a.eval,rfl,h ρ S a w ⟨K.low,λq u=>K.slot q (by grind),λq u=>K.U4 q (by grind)⟩,
  k ρ S a w ⟨K.low,λq u=>K.slot q (by grind),λq u=>K.U4 q (by grind)⟩⟩
theorem mU{α β γ:Type}{g:Nat}{ef:Fu α}{ec:Fu β}{u:α}{v:β}{f:Fu γ}{q:γ}{xs ys:List aAp}(hf:ow O xs ef u)(hc:ow O ys ec v)(hI:xg (Fu.iz g ef ec) (u,v) f q):JO F ⟨d,.makeFunc (.func g) xs.toArray ys.toArray,ty,p,af,gd⟩ O (.v f q) []:=by
 intro ρ S a w K;have B:=hf ρ S a w ⟨K.low,λr A=>K.slot r (by grind [Op.operands]),λr A=>K.U4 r (by grind [Op.operands])⟩;have C:=hc ρ S a w ⟨K.low,λr A=>K.slot r (by grind [Op.operands]),λr A=>K.U4 r (by grind [Op.operands])⟩;refine j6.value (w':=w) (v:= .func (.func g) (xs.map a.eval).toArray (ys.map a.eval).toArray) (by simp[execOp,Instr.makeFunc]) (y9.same ?_);exact hI _ _ _ ⟨_,⟨_,_,rfl,B,C⟩,rfl⟩
theorem Gq{T:aAg}{i:Nat}(l:Nat)(hx:aV O.g x=some (.ptr i 0))(hil:Nat.beq i l=false):JO F ⟨d,.box T x,ty,p,af,gd⟩ O (.ptr l 0) [(l,.box T [.ptr i 0])]:=by
 intro ρ S a w K;have h:=K.slot x (by simp[Op.operands]) _ hx;obtain⟨⟨b,B⟩,u⟩:=h;rw[B] at u;have A:a.eval x= .pointer (some ⟨b,0,none⟩):=u;refine j6.value (w':=w.alloc (.cells [a.eval x].toArray T)) (v:= .pointer (some ⟨w.heap.size,0,none⟩)) (by simp[execOp,Instr.box,yV,A,Value.cells]) ?_;refine y9.box l ?_ (by grind [bX,Slot.E1]);exact⟨[a.eval x],[],rfl,by grind [Slot.I2],rfl⟩
theorem BS{i:Nat}{T:aAg}{l:List Slot}{cs:List aBb}{Q:aBd->aBe->aAf->Prop}(he:aF O.d i=some (.box T l none))(h:∀c,W F cs ⟨O.g,(i,.box T l (some c))::O.d⟩ Q):W F cs O Q:=by
 intro a w V;obtain⟨⟨ρ,B,I0⟩,hz,G6⟩:=V;have U:=B.own i _ he;obtain⟨⟨b,ac,N,h2,h3⟩,h4⟩:=U;refine h b a w ⟨⟨ρ,?_,?_⟩,hz,G6⟩
 ·have G:∀I A,aF ((i,j2.box T l (some b))::O.d) I=some A->(I=i/\A= .box T l (some b))\/(I≠i/\aF O.d I=some A):=λI A h=>Ed h;have K:Un F.S0 ρ ((i,j2.box T l (some b))::O.d)=Un F.S0 ρ O.d:=by
   funext k;refine propext ⟨?_,?_⟩
   ·rintro (h |⟨j,A,u,E⟩)
    ·exact .inl h
    ·rcases G j A u with⟨rfl,_⟩|⟨_,u⟩
     ·exact .inr ⟨j,_,he,E⟩
     ·exact .inr ⟨j,_,u,E⟩
   ·rintro (h |⟨j,A,u,E⟩)
    ·exact .inl h
    ·by_cases M:j=i
     ·subst M;exact .inr ⟨j,.box T l (some b),by rw[bA,sM rfl],E⟩
     ·exact .inr ⟨j,A,by rw[bA,nS (jj M)];exact u,E⟩
  refine⟨B.low,B.size,B.frame,B.os,B.tape,B.output,?_,?_,?_,?_⟩
  ·intro j A u;show A.ok ρ (Un F.S0 ρ ((i,j2.box T l (some b))::O.d)) w (ρ j);rw[K];rcases G j A u with⟨rfl,rfl⟩|⟨_,u⟩
   ·exact⟨⟨b,ac,N,h2,h3⟩,λc lj=>by cases lj;exact N⟩
   ·exact B.own j A u
  ·intro j A C u D;rcases G j A u with⟨rfl,rfl⟩|⟨_,u⟩
   ·exact B.fresh j _ C he D
   ·exact B.fresh j A C u D
  ·intro j X A ab C u wo L D;rcases G j A u with⟨P,_⟩|⟨_,gj⟩<;>rcases G X ab wo with⟨R,_⟩|⟨_,S⟩
   ·rw[P,R]
   ·subst P;exact B.inj _ _ _ _ C he S L D
   ·subst R;exact B.inj _ _ _ _ C gj he L D
   ·exact B.inj _ _ _ _ C gj S L D
  ·intro j A C u D;rcases G j A u with⟨rfl,rfl⟩|⟨_,u⟩
   ·exact B.apart j _ C he D
   ·exact B.apart j A C u D
 ·intro t s ht
  have K:Ext (Un F.S0 ρ O.d) (Un F.S0 ρ ((i,j2.box T l (some b))::O.d)) w w:=⟨gC _,λk _ hk=>⟨rfl,λh=>hk (by
   rcases h with h |⟨j,A,u,E⟩
   ·exact .inl h
   ·rcases Ed u with⟨rfl,_⟩|⟨_,u⟩
    ·exact .inr ⟨j,_,he,E⟩
    ·exact .inr ⟨j,_,u,E⟩)⟩⟩
  exact Slot.j5 s _ (I0 t s ht) K (λ_ _=>rfl)
end
def pc{α:Type}(pins:List (Nat×Nat))(e:Fu α)(v:α)(ss:List Slot):Prop:=∀ρ S w cs,(∀p∈pins,(ρ p.1).v= .pointer (some ⟨p.2,0,none⟩))->e.ok v S w cs->aG ρ S w ss cs
theorem pc.nil{pins:List (Nat×Nat)}:pc pins jQ () []:=λ_ _ _ _ _ h=>h
theorem pc.O3{pins:List (Nat×Nat)}{i c:Nat}(h:(i,c)∈pins):pc pins (Fu.O3 c) () [.ptr i 0]:=by
 intro ρ S w cs hp h';subst h';have:=hp _ h;exact⟨_,[],rfl,⟨⟨c,this⟩,by rw[this];rfl⟩,rfl⟩
theorem pc.pt{pins:List (Nat×Nat)}{α:Type}{e:Fu α}{v:α}:pc pins (Fu.pt e) v [.B8 e v]:=by
 rintro ρ S w cs u ⟨b,A,B,rfl,h⟩;exact⟨_,[],rfl,by grind [Slot.ok],rfl⟩
theorem pc.pr{pins:List (Nat×Nat)}{α β:Type}{e:Fu α}{e':Fu β}{v:α}{v':β}{s s':List Slot}(h:pc pins e v s)(k:pc pins e' v' s'):pc pins (Fu.pr e e') (v,v') (s++s'):=by
 rintro ρ S w cs u ⟨c,A,rfl,B,C⟩;exact yZ (h ρ S w c u B) (k ρ S w A u C)
def o8{β:Type}(P:aA5)(pins:List (Nat×Nat))(f:Fu β)(q:β)(C5:List (Nat×j2))(res:Slot)(u5:List (Nat×j2)):Prop:=∀S w v,f.val q S w v->∃g fs gs ss,v= .func (.func g) fs.toArray gs.toArray/\(∀args w,(callFunc g args).run P w= .ok (.enter g args) w)/\(∀ρ,(∀p∈pins,(ρ p.1).v= .pointer (some ⟨p.2,0,none⟩))->aG ρ S w ss (fs++gs))/\A3 P g ss C5 res u5
section
variable {P:aA5}{pins:List (Nat×Nat)}{C5 u5:List (Nat×j2)}
theorem o8.iz{α β:Type}{g:Nat}{ef:Fu α}{ec:Fu β}{q:α×β}{s s':List Slot}(h:pc pins ef q.1 s)(k:pc pins ec q.2 s')(hc:∀args w,(callFunc g args).run P w= .ok (.enter g args) w)(hm:A3 P g (s++s') C5 res u5):o8 P pins (Fu.iz g ef ec) q C5 res u5:=by
 rintro S w v ⟨cs,⟨A,B,rfl,C,D⟩,rfl⟩;exact⟨g,A,B,_,rfl,hc,λρ u=>yZ (h ρ S w A u C) (k ρ S w B u D),hm⟩
theorem o8.l{α β:Type}{f:Fu α}{r:Fu β}{h1:f.n=1}{h2:f.agg=false}{h3:r.n=1}{h4:r.agg=false}{q:α}(h:o8 P pins f q C5 res u5):o8 P pins (pG f r h1 h2 h3 h4) (.inl q) C5 res u5:=by
 rintro S w v ⟨cs,u,A⟩;exact h S w v ⟨cs,u,by grind [Fu.pk,pG]⟩
theorem o8.r{α β:Type}{f:Fu α}{r:Fu β}{h1:f.n=1}{h2:f.agg=false}{h3:r.n=1}{h4:r.agg=false}{q:β}(h:o8 P pins r q C5 res u5):o8 P pins (pG f r h1 h2 h3 h4) (.inr q) C5 res u5:=by
 rintro S w v ⟨cs,u,A⟩;exact h S w v ⟨cs,u,by grind [Fu.pk,pG]⟩
end
section
variable {d:Option Tmp}{x:aAp}
theorem FD{P:aA5}{g:aA6}{ts:Array aAg}{a:aBe}{w:aAf}{fs gs:List aA4}(hx:a.eval x= .func (.func g) fs.toArray gs.toArray)(B5:∀args w,(callFunc g args).run P w= .ok (.enter g args) w):(execOp a.eval ⟨d,.call ⟨.value x,#[],ts⟩,ty,p,af,gd⟩).run P w= .ok (.enter g (fs++gs).toArray) w:=by
 simp_all [execOp,resolve,Deferred.ofValue,invoke]
def ly(O:AS)(r:Nat->Nat):List (Nat×Nat)->Prop | []=>True | q::l=>(∃T s,aF O.d (r q.1)=some (.box T s (some q.2)))/\ly O r l
theorem ly.at{O:AS}{r:Nat->Nat}:∀{pins:List (Nat×Nat)},ly O r pins->∀q∈pins,∃T s,aF O.d (r q.1)=some (.box T s (some q.2))
 |_::_,h,q,u=>by
  rcases sK.1 u with rfl | u
  ·exact h.1
  ·exact ly.at h.2 q u
theorem Ky{β:Type}{f:Fu β}{q:β}{ts:Array aAg}{res:Slot}{C5 u5:(Nat->Nat)->List (Nat×j2)}{D:List (Nat×j2)}{K H:List Nat}(pins:List (Nat×Nat))(r:Nat->Nat)(hr:∀i j,r i=r j->i=j)(hx:aV O.g x=some (.v f q))(hp:ly O r pins)(hc:∀A,(∀p∈pins,A p.1=p.2)->o8 F.P pins f q (C5 A) res (u5 A))(T7:∀A,T3 O r A (C5 A))(V8:∀A,G2 O r A (u5 A) D K)(hH:∀A,(C5 A).map (λx=>r x.1)=H)(D9:xT O.g (gS O.d H) H K D=true)(kz:Ko O H D=true)(D6:∀A,gH res (u5 A)=true)(xu:K.all (λk=>dK k H)=true)(J2:eR d F.N=true):JM F ⟨d,.call ⟨.value x,#[],ts⟩,ty,p,af,gd⟩ O ⟨gL d (res.map r) O.g,D++gS O.d H⟩:=by
 rintro a w ⟨⟨ρ,B,X⟩,hz,G6⟩;let A:Nat->Nat:=λi=>O3 (ρ (r i)).v
 have L:∀i b,(ρ (r i)).v= .pointer (some ⟨b,0,none⟩)->A i=b:=λi b h=>by show O3 (ρ (r i)).v=b;rw[h];rfl
 have S:∀q∈pins,(ρ (r q.1)).v= .pointer (some ⟨q.2,0,none⟩):=λq hq=>by
  obtain⟨T,s,h⟩:=hp.at q hq;exact(B.own _ _ h).2 _ rfl
 have hd:=(T7 A).spec B.own L;have J0:∀k,(Un F.S0 ρ O.d k/\¬lF (λi=>ρ (r i)) (C5 A) k)->k<w.heap.size:=by
  rintro k ⟨h |⟨i,u,E,G⟩,_⟩
  ·exact gn (B.low k h) B.size
  ·exact(B.fresh i u k E G).2
 have U:Un (λk=>Un F.S0 ρ O.d k/\¬lF (λi=>ρ (r i)) (C5 A) k) (λi=>ρ (r i)) (C5 A)=Un F.S0 ρ O.d:=by
  funext k;refine propext ⟨λh=>?_,λh=>?_⟩
  ·rcases h with h |⟨i,u,E,G⟩
   ·exact h.1
   ·obtain⟨⟨Q,C⟩,_⟩:=hd i u E;exact .inr ⟨r i,Q,C,G⟩
  ·by_cases I:lF (λi=>ρ (r i)) (C5 A) k
   ·exact .inr I
   ·exact .inl ⟨h,I⟩
 have ab:Ins (λk=>Un F.S0 ρ O.d k/\¬lF (λi=>ρ (r i)) (C5 A) k) (λi=>ρ (r i)) w (C5 A):=by
  refine⟨λi u h=>?_,λi u b h M=>?_,λi u b h M h'=>h'.2 ⟨i,u,h,M⟩,λi j u ac b hi hj bi bj=>?_⟩
  ·rw[U];exact(hd i u h).2
  ·obtain⟨⟨Q,C⟩,_⟩:=hd i u h;exact(B.fresh _ _ b C M).2
  ·obtain⟨⟨Q,C⟩,_⟩:=hd i u hi;obtain⟨⟨vc,R⟩,_⟩:=hd j ac hj;exact hr _ _ (B.inj _ _ _ _ b C R bi bj)
 have K:=aY B X (Op.call ⟨.value x,#[],ts⟩).operands;have V:=K.slot x (by simp[Op.operands,Call.operands]) _ hx;simp only[Slot.ok] at V;obtain⟨g,fs,gs,ss,E,G,C,R⟩:=hc A (λp ad=>L _ _ (S p ad)) _ _ _ V;refine j6.enter (FD E G) ((R _ w _ _ J0 ab (by rw[U];exact C _ S)).mono ?_);rintro e w' ⟨v,ρ',rfl,I⟩;exact⟨v,rfl,St.M0 hr B X hz G6 L (T7 A) (V8 A) (hH A) D9 kz (D6 A) xu J2 I⟩
theorem Gr{f:aA6}{xs:List aAp}{ts:Array aAg}{ss:List Slot}{res:Slot}{C5 u5:(Nat->Nat)->List (Nat×j2)}{D:List (Nat×j2)}{K H:List Nat}(pins:List (Nat×Nat))(r:Nat->Nat)(hr:∀i j,r i=r j->i=j)(hp:ly O r pins)(hc:∀A,(∀p∈pins,A p.1=p.2)->A3 F.P f ss (C5 A) res (u5 A))(B5:∀args w,(callFunc f args).run F.P w= .ok (.enter f args) w)(ha:T4 O r xs ss)(T7:∀A,T3 O r A (C5 A))(V8:∀A,G2 O r A (u5 A) D K)(hH:∀A,(C5 A).map (λx=>r x.1)=H)(D9:xT O.g (gS O.d H) H K D=true)(kz:Ko O H D=true)(D6:∀A,gH res (u5 A)=true)(xu:K.all (λk=>dK k H)=true)(J2:eR d F.N=true):JM F ⟨d,.call ⟨.value (.func f),xs.toArray,ts⟩,ty,p,af,gd⟩ O ⟨gL d (res.map r) O.g,D++gS O.d H⟩:=by
 rintro a w ⟨⟨ρ,B,S⟩,hz,G6⟩;let A:Nat->Nat:=λi=>O3 (ρ (r i)).v
 have G:∀i b,(ρ (r i)).v= .pointer (some ⟨b,0,none⟩)->A i=b:=λi b h=>by show O3 (ρ (r i)).v=b;rw[h];rfl
 have U:∀q∈pins,(ρ (r q.1)).v= .pointer (some ⟨q.2,0,none⟩):=λq hq=>by
  obtain⟨T,s,h⟩:=hp.at q hq;exact(B.own _ _ h).2 _ rfl
 have hd:=(T7 A).spec B.own G;have V:∀k,(Un F.S0 ρ O.d k/\¬lF (λi=>ρ (r i)) (C5 A) k)->k<w.heap.size:=by
  rintro k ⟨h |⟨i,u,M,Q⟩,_⟩
  ·exact gn (B.low k h) B.size
  ·exact(B.fresh i u k M Q).2
 have R:Un (λk=>Un F.S0 ρ O.d k/\¬lF (λi=>ρ (r i)) (C5 A) k) (λi=>ρ (r i)) (C5 A)=Un F.S0 ρ O.d:=by
  funext k;refine propext ⟨λh=>?_,λh=>?_⟩
  ·rcases h with h |⟨i,u,M,Q⟩
   ·exact h.1
   ·obtain⟨⟨L,C⟩,_⟩:=hd i u M;exact .inr ⟨r i,L,C,Q⟩
  ·by_cases E:lF (λi=>ρ (r i)) (C5 A) k
   ·exact .inr E
   ·exact .inl ⟨h,E⟩
 have X:Ins (λk=>Un F.S0 ρ O.d k/\¬lF (λi=>ρ (r i)) (C5 A) k) (λi=>ρ (r i)) w (C5 A):=by
  refine⟨λi u h=>?_,λi u b h I=>?_,λi u b h I h'=>h'.2 ⟨i,u,h,I⟩,λi j u ab b hi hj bi bj=>?_⟩
  ·rw[R];exact(hd i u h).2
  ·obtain⟨⟨L,C⟩,_⟩:=hd i u h;exact(B.fresh _ _ b C I).2
  ·obtain⟨⟨L,C⟩,_⟩:=hd i u hi;obtain⟨⟨vc,h4⟩,_⟩:=hd j ab hj;exact hr _ _ (B.inj _ _ _ _ b C h4 bi bj)
 have K:=aY B S (Op.call ⟨.value (.func f),xs.toArray,ts⟩).operands;have hv:=ha.spec (ys:=(Op.call ⟨.value (.func f),xs.toArray,ts⟩).operands) (λx hx=>by simp[Op.operands,Call.operands,hx]) K;refine j6.enter (pW B5) ((hc A (λp ac=>G _ _ (U p ac)) _ w _ _ V X (by rw[R];exact hv)).mono ?_);rintro e w' ⟨v,ρ',rfl,E⟩;exact⟨v,rfl,St.M0 hr B S hz G6 G (T7 A) (V8 A) (hH A) D9 kz (D6 A) xu J2 E⟩
end
theorem o8.at2{β:Type}{P:aA5}{e:Nat->Nat->Fu β}{q:β}{C5 u5:(Nat->Nat)->List (Nat×j2)}{res:Slot}(a p:Nat)(h:∀A:Nat->Nat,o8 P [(9000,A 9000),(9100,A 9100)] (e (A 9000) (A 9100)) q (C5 A) res (u5 A)):∀A:Nat->Nat,(∀z∈ [(9000,a),(9100,p)],A z.1=z.2)->o8 P [(9000,a),(9100,p)] (e a p) q (C5 A) res (u5 A):=by
 intro A u;have B:=u (9000,a) (by simp);have C:=u (9100,p) (by simp)
 grind
theorem A3.at2{P:aA5}{f:aA6}{ss:Nat->Nat->List Slot}{C5 u5:(Nat->Nat)->List (Nat×j2)}{res:Slot}(a p:Nat)(h:∀A:Nat->Nat,A3 P f (ss (A 9000) (A 9100)) (C5 A) res (u5 A)):∀A:Nat->Nat,(∀z∈ [(9000,a),(9100,p)],A z.1=z.2)->A3 P f (ss a p) (C5 A) res (u5 A):=by
 intro A u;have B:=u (9000,a) (by simp);have C:=u (9100,p) (by simp)
 grind
def qg{α:Type}(zs:List α)(lo hi m:Int):Option (List α):=if hi=m/\lo<hi then sub zs lo hi else none
theorem Gs{α:Type}{zs ys:List α}{lo hi m:Int}(h:qg zs lo hi m=some ys):hi=m/\lo<hi/\sub zs lo hi=some ys:=by
 grind [qg]
theorem BT{α:Type}{zs ys:List α}{lo hi m:Int}(h:qg zs lo hi m=some ys):ys≠ []:=by
 obtain⟨_,B,A⟩:=Gs h;obtain⟨a,b,c,rfl⟩:=eB A;intro u;have:=congrArg List.length u
 grind
theorem Uf{P:aA5}{w:aAf}{n:Nat}{k:aA7}{lo:Int}(h0:0<=lo)(h1:lo<=n):(Instr.sliceBounds false n n (some (.int k lo)) none none).run P w= .ok (lo.toNat,n,n) w:=by
 simp_all [Instr.sliceBounds,Instr.sliceBound,asIntOf]
theorem Ug{P:aA5}{w:aAf}{n:Nat}{k k':aA7}{hi:Int}(h0:0<=hi)(h1:hi<=n):(Instr.sliceBounds false n n none (some (.int k hi)) (some (.int k' hi))).run P w= .ok (0,hi.toNat,hi.toNat) w:=by
 have u:hi<=(hi.toNat):=by omega
 simp only[Instr.sliceBounds,Instr.sliceBound,asIntOf,Sem.run_bind,Sem.run_pure,Result.andThen_ok,h0,h1,u,aIe,K4]
theorem Yk{P:aA5}{w:aAf}{U E:aAg}{b off len m:Nat}{k:aA7}{lo:Int}(h0:0<=lo)(h1:lo<len)(hU:∀w,(underlying U).run P w= .ok (.array len E) w)(hE:∀w,(sizeOf E).run P w= .ok m w):(Instr.sliceAt U (.pointer (some ⟨b,off,none⟩)) (some (.int k lo)) none none).run P w= .ok (.slice (some ⟨b,off+lo.toNat*m,none⟩) (len - lo.toNat) (len - lo.toNat)) w:=by
 have u:¬len=lo.toNat:=by omega
 simp[Instr.sliceAt,hU,hE,Instr.sureAddr,Uf h0 (show lo<=(len) by omega),u,Addr.add_lit]
theorem Yl{P:aA5}{w:aAf}{U E:aAg}{b off len m:Nat}{k k':aA7}{hi:Int}(h0:0<hi)(h1:hi<=len)(hU:∀w,(underlying U).run P w= .ok (.array len E) w)(hE:∀w,(sizeOf E).run P w= .ok m w):(Instr.sliceAt U (.pointer (some ⟨b,off,none⟩)) none (some (.int k hi)) (some (.int k' hi))).run P w= .ok (.slice (some ⟨b,off,none⟩) hi.toNat hi.toNat) w:=by
 simp_all [Addr.add,Addr.add_lit,Instr.sliceAt,Instr.sureAddr,Ug,Int.le_of_lt]
section
variable {d:Option Tmp}{x y z:aAp}
theorem Ym{α:Type}{e:Fu α}{zs ys:List α}{U E:aAg}{len:Nat}{lo:Int}{k:aA7}(hs:qg zs lo (len:Int) (len:Int)=some ys)(hx:aV O.g x=some (.B8 (Fu.arr len e) zs))(hy:aV O.g y=some (.v (Fu.int k) lo))(hlen:Nat.ble len 4294967296=true)(hU:∀w,(underlying U).run F.P w= .ok (.array len E) w)(hE:∀w,(sizeOf E).run F.P w= .ok e.n w):JO F ⟨d,.slice U x (some y) none none,ty,p,af,gd⟩ O (.v (zD e) ys) []:=by
 intro ρ S a w K;have hlen:=gQ hlen;obtain⟨_,X,hs⟩:=Gs hs;obtain⟨L,s1,s2,rfl⟩:=eB hs;have h:=K.slot x (by simp[Op.operands]) _ hx;have C:=(dC K (x:=y) (by simp[Op.operands]) hy).1;simp only[Slot.ok] at h;obtain⟨b,u,ds,M,N,Q,R,h5,T⟩:=h;have A:((zs.take (len:Int).toNat).drop lo.toNat).length=len - lo.toNat:=by rw[mr,Z1];omega
 have D:(Fu.sl e).val ((zs.take (len:Int).toNat).drop lo.toNat) S w (.slice (some ⟨b,u+lo.toNat*e.n,none⟩) (len - lo.toNat) (len - lo.toNat)):=
  lY.2 ⟨_,_,by rw[A],⟨by rw[A];omega,by rw[A];omega⟩,.inr ⟨b,u+lo.toNat*e.n,_,rfl,N,Q,(R.take ((len:Int).toNat*e.n)).drop (lo.toNat*e.n),uZ _ (rM _ T)⟩⟩
 refine j6.value (w':=w) (v:= .slice (some ⟨b,u+lo.toNat*e.n,none⟩) (len - lo.toNat) (len - lo.toNat)) ?_ (y9.same (by
  simp only[Slot.ok];obtain⟨cs,V,B⟩:=D;refine⟨cs,⟨V,λa l c I=>?_⟩,B⟩;subst I;have G:(Value.slice (some ⟨b,u+lo.toNat*e.n,none⟩) (len - lo.toNat) (len - lo.toNat))= .slice a l c:=B;injection G with _ e1 e2
  omega))
 simp[execOp,M,C,Yk L (show lo<(len:Int) by omega) hU hE]
theorem FE{α:Type}{e:Fu α}{zs ys:List α}{U E:aAg}{len:Nat}{hi m:Int}{k k':aA7}(hs:qg zs 0 hi m=some ys)(hx:aV O.g x=some (.B8 (Fu.arr len e) zs))(hy:aV O.g y=some (.v (Fu.int k) hi))(hz:aV O.g z=some (.v (Fu.int k') m))(hlen:Nat.ble len 4294967296=true)(hU:∀w,(underlying U).run F.P w= .ok (.array len E) w)(hE:∀w,(sizeOf E).run F.P w= .ok e.n w):JO F ⟨d,.slice U x none (some y) (some z),ty,p,af,gd⟩ O (.v (zD e) ys) []:=by
 intro ρ S a w K;have hlen:=gQ hlen;obtain⟨rfl,M,hs⟩:=Gs hs;obtain⟨s0,s1,s2,rfl⟩:=eB hs;have h:=K.slot x (by simp[Op.operands]) _ hx;have C:=(dC K (x:=y) (by simp[Op.operands]) hy).1;have D:=(dC K (x:=z) (by simp[Op.operands]) hz).1;simp only[Slot.ok] at h;obtain⟨b,u,ds,N,Q,R,T,h5,V⟩:=h;have A:((zs.take hi.toNat).drop (0:Int).toNat).length=hi.toNat:=by rw[mr,Z1];simp only[Int.toNat_zero];omega
 have G:(Fu.sl e).val ((zs.take hi.toNat).drop (0:Int).toNat) S w (.slice (some ⟨b,u,none⟩) hi.toNat hi.toNat):=
  lY.2 ⟨_,_,by rw[A],⟨by rw[A];omega,by rw[A];omega⟩,.inr ⟨b,u,_,rfl,Q,R,T.take (hi.toNat*e.n),by simpa using rM _ V⟩⟩
 refine j6.value (w':=w) (v:= .slice (some ⟨b,u,none⟩) hi.toNat hi.toNat) ?_ (y9.same (by
  simp only[Slot.ok];obtain⟨cs,X,B⟩:=G;refine⟨cs,⟨X,λa l c L=>?_⟩,B⟩;subst L;have I:(Value.slice (some ⟨b,u,none⟩) hi.toNat hi.toNat)= .slice a l c:=B;injection I with _ e1 e2
  omega))
 simp[execOp,N,C,D,Yl M (show hi<=(len:Int) by omega) hU hE]
theorem Ot{α:Type}{e:Fu α}{zs ys:List α}{U E:aAg}{len:Nat}{hi:Int}{k:aA7}(hs:sub zs 0 hi=some ys)(hx:aV O.g x=some (.B8 (Fu.arr len e) zs))(hy:aV O.g y=some (.v (Fu.int k) hi))(hlen:Nat.ble len 4294967296=true)(hU:∀w,(underlying U).run F.P w= .ok (.array len E) w)(hE:∀w,(sizeOf E).run F.P w= .ok e.n w):JO F ⟨d,.slice U x none (some y) none,ty,p,af,gd⟩ O (.v (Fu.sl e) ys) []:=by
 intro ρ S a w K;have hlen:=gQ hlen;obtain⟨M,s1,s2,rfl⟩:=eB hs;have h:=K.slot x (by simp[Op.operands]) _ hx;have A:=(dC K (x:=y) (by simp[Op.operands]) hy).1;simp only[Slot.ok] at h;obtain⟨b,u,N,C,D,G,I,Q,L⟩:=h;have B:((zs.take hi.toNat).drop (0:Int).toNat).length=hi.toNat:=by rw[mr,Z1];simp only[Int.toNat_zero];omega
 refine j6.value (w':=w) (v:= .slice (some ⟨b,u,none⟩) hi.toNat len) ?_ (y9.same (by
  simp only[Slot.ok]
  exact lY.2 ⟨_,_,by rw[B],(by omega),.inr ⟨b,u,_,rfl,D,G,I.take (hi.toNat*e.n),by simpa using rM _ L⟩⟩))
 simp[execOp,C,A,Yd s1 (show hi<=(len:Int) by omega) hU hE]
def jq(O:AS)(xs:List aAp)(ss:List Slot):Prop:=∀(F:w8) (ρ:Nat->LV) (a:aBe) (w:aAf),Core F O.d ρ w->(∀t s,lk O.g t=some s->s.ok ρ (Un F.S0 ρ O.d) w (a.tmps.getD t undef))->aG ρ (λ_=>False) w ss (xs.map a.eval)
theorem jq.nil:jq O [] []:=λ_ _ _ _ _ _=>by simp[aG]
theorem jq.cons{s:Slot}{xs:List aAp}{l:List Slot}(h:Arg O true x s)(k:jq O xs l):jq O (x::xs) (s::l):=by
 intro F ρ a w L4 hs;have u:=h _ _ _ _ (aY L4 hs #[x]);exact⟨_,_,rfl,u,k F ρ a w L4 hs⟩
theorem jq.fn1{α:Type}{g i j:Nat}{T T2:aAg}{e:Fu α}{v:α}{bl l:List Slot}{pb pb2:Option Nat}{xs:List aAp}(h:aV O.g x=some (.G0 g [.ptr i 0]))(he:aF O.d i=some (.box T [.ptr j 0] pb))(he2:aF O.d j=some (.box T2 bl pb2))(hs:X7 bl e v)(k:jq O xs l):jq O (x::xs) (.G0 g [.B8 (Fu.we e) (some v)]::l):=by
 intro F ρ a w L4 D9;have B:=(aY L4 D9 #[x]).slot x (by simp) _ h;simp only[aG,V0];refine⟨_,_,rfl,?_,k F ρ a w L4 D9⟩;simp only[Slot.ok] at B ⊢;obtain⟨vs,Q,D⟩:=B;refine⟨vs,Q,?_⟩;simp only[aG] at D ⊢;obtain⟨u,ws,rfl,E,R⟩:=D;refine⟨u,ws,rfl,?_,R⟩;have N:=(L4.own i _ he);have P:=(L4.own j _ he2);simp only[Slot.ok] at E;obtain⟨⟨b,G⟩,S⟩:=E;obtain⟨⟨I,cs,K,L,M⟩,_⟩:=N;obtain rfl:I=b:=by rw[G] at K;simpa using K.symm
 simp only[aL] at M;obtain⟨c,ds,rfl,A,rfl⟩:=M;obtain⟨q,rfl,U⟩:∃q,c=[q]/\(Slot.ptr j 0).ok ρ (Un F.S0 ρ O.d) w q:=by
  simp only[Slot.I2] at A;exact⟨_,A.2,by exact⟨A.1,rfl⟩⟩
 have C:=Yb U P hs;simp only[Slot.ok] at C;obtain⟨V,X,ab,k1,k2,k3,k4,k5⟩:=C;refine⟨I,0,_,by rw[S,G];rfl,(r8.of_heap L).lt,λh=>h,r8.of_heap L,?_⟩;exact⟨V,X,ab,by simp[k1],k2,k3,k4,k5⟩
theorem KG{f:aA6}{xs:List aAp}{ts:Array aAg}{ss:List Slot}{res:Slot}(hc:O4 F.P f ss res [])(B5:∀args w,(callFunc f args).run F.P w= .ok (.enter f args) w)(ha:jq O xs ss)(hf:D7 res)(hd:eR d F.N=true):JM F ⟨d,.call ⟨.value (.func f),xs.toArray,ts⟩,ty,p,af,gd⟩ O (O.put d res []):=by
 rintro a w ⟨⟨ρ,A,B⟩,C,D⟩;refine j6.enter (pW B5) ?_;refine(hc (λ_=>False) w _ ρ (λ_ h=>h.elim) (ha F ρ a w A B)).mono ?_;rintro e L ⟨v,rfl,ρ',E,G,I,M⟩;exact⟨v,rfl,St.put A B C D rfl hd ⟨ρ',E,G,hf _ _ _ _ _ I,⟨λi u h=>by grind [aF],λi u b h=>by grind [aF],λi j u K b h=>by simp[aF]⟩⟩⟩
end
def RO{α:Type}(l:List α):Option Unit:=if l.isEmpty then none else some ()
theorem Kz{α:Type}{l:List α}{u:Unit}(h:RO l=some u):l≠ []:=by
 intro e;subst e;cases h
theorem XO{α:Type}{e:Fu α}{v:Bool×List α}:∀S w cs,(Fu.qh e).ok v S w cs->(Fu.sl e).ok v.2 S w cs:=λ_ _ _ h=>h.1
theorem KH{α:Type}{e:Fu α}{xs:List α}(h:xs≠ []):∀S w cs,(Fu.sl e).ok xs S w cs->(Fu.qh e).ok (false,xs) S w cs:=by
 rintro S w cs ⟨a,u,A,B,C⟩;refine⟨⟨a,u,A,B,C⟩,λD l c E=>?_⟩
 grind
theorem ki.unN{α:Type}{e:Fu α}{v:Bool×List α}{O:AS}{r:Nat->Nat}{ls:List Nat}:ki O r ls (.v (Fu.qh e) v) (.v (Fu.sl e) v.2):= .enc XO (λ_=>rfl)
section
variable {d:Option Tmp}{x y z:aAp}{e:Fu α}
theorem XP{o:aBa}{xs:List α}{new:List (Nat×j2)}(G4:xs≠ [])(h:JO F o O (.v (Fu.sl e) xs) new):JO F o O (.v (Fu.qh e) (false,xs)) new:=by
 intro ρ S a w K;refine(h ρ S a w K).mono ?_;rintro u I ⟨ρ',C,D,E,G⟩;refine⟨ρ',C,D,?_,G⟩;obtain⟨cs,A,B⟩:=E;exact⟨cs,KH G4 _ _ _ A,B⟩
theorem xU(e:Fu α):JO F ⟨d,.assign (.const (.slice none 0 0)),ty,p,af,gd⟩ O (.v (Fu.qh e) (true,[])) []:=by
 intro ρ S a w K;refine j6.value (v:= .slice none 0 0) (rfl) (y9.same ?_);exact⟨[.slice none 0 0],⟨⟨none,0,rfl,by simp,.inl rfl⟩,λa l c h=>by grind⟩,rfl⟩
theorem FG{v:Bool×List α}{T T' E:aAg}(hx:aV O.g x=some (.v (Fu.qh e) v))(hT:∀w,(underlying T).run F.P w= .ok (.slice E) w):JO F ⟨d,.binOp .neq T x (.const (.slice none 0 0)) T',ty,p,af,gd⟩ O (.v Fu.bool (!v.1)) []:=by
 intro ρ S a w K;have h:=K.slot x (by simp[Op.operands]) _ hx;obtain⟨b,xs⟩:=v;obtain⟨_,A,l,c,B,rfl⟩:=Qz h;have u:=run_equalIn_slice_nil (P:=F.P) w 9999 T E A l c (oB hT);refine j6.value (w':=w) ?_ (y9.same (iA _ ρ S w));exact Ip (.inr ⟨rfl,rfl⟩) B rfl (by intros;simp) (by intros;simp) (by intros;simp) (by intros;simp) (rfl) u
theorem xH{β:Type}{v:α}{e':Fu β}{z':β}{T U:aAg}{l:List Slot}{pb:Option Nat}{i n off o1:Nat}(hn:n=off+o1)(hx:aV O.g x=some (.ptr i n))(he:aF O.d i=some (.box T l pb))(ho:jJ l off=some (.v e v))(hp:Prj e v o1 e' z')(hA:∀w,(isAgg U).run F.P w= .ok e'.agg w)(hS:∀w,(sizeOf U).run F.P w= .ok e'.n w):JO F ⟨d,.load U x,ty,p,af,gd⟩ O (.v e' z') []:=by
 subst hn;intro ρ S a w K;obtain⟨b,cs,Q,I,L,M⟩:=yF K (by simp[Op.operands]) hx he;obtain⟨A,c,B,rfl,rfl,N,_⟩:=uD ho M;obtain⟨C,u,D,rfl,rfl,E⟩:=hp _ _ c N;have G:=by
  have:=r8.of_heap L;rw[show A++(C++(u++D)++B)=(A++C)++(u++(D++B)) by simp] at this;have:=this.sub;simpa using this
 refine j6.value (w':=w) (v:=e'.pk u) ?_ (y9.same (by simp only[Slot.ok];exact⟨u,E,rfl⟩));have:=Cu (P:=F.P) G E hA hS;simp[execOp,I,Instr.loadAt,Instr.sureAddr,this]
end
section
variable {o:aBa}{yc:AS}
theorem J.k(h:JO F o O s new)(k:J F ops os (O.put o.dst s new) O')(g:o.guard= .none:=by rfl)(hf:O.free new=true:=by rfl)(hd:eR o.dst F.N=true:=by rfl):J F ops (o::os) O O':=J.cons (.none g) h hf hd k
theorem J.mv{d:Option Tmp}{x:aAp}{ty:aAg}{p:String}{af:Array Edge}(hx:aV O.g x=some s)(k:J F ops os (O.put d s []) O')(hd:eR d F.N=true:=by rfl):J F ops (⟨d,.move x,ty,p,af,none⟩::os) O O':=J.cons (.none rfl) (aZ hx) rfl hd k
theorem J.t(h:JM F o O O')(k:J F ops os O' yc)(g:o.guard= .none:=by rfl):J F ops (o::os) O yc:=Nu (.none g) h k
end
theorem ou.c{O:AS}{r:Nat->Nat}{ls:List Nat}{t:Nat}{s':Slot}{g:List (Nat×Slot)}(h:lk O.g t=some (s'.map r))(k:ou O r ls g):ou O r ls ((t,s')::g):= .cons h .same k
theorem kj.c{O:AS}{r:Nat->Nat}{ls:List Nat}{s s':Slot}{l l':List Slot}(h:s=s'.map r)(k:kj O r ls l l'):kj O r ls (s::l) (s'::l'):= .cons (.of_eq h) k
section
variable {x y z:aAp}
theorem uX{T U:aAg}{l l':List Slot}{i off n:Nat}(pn qn:Nat)(hx:aV O.g x=some (.ptr i off))(he:aF O.d i=some (.box T l pb))(h1:Nat.beq (IZ (l.take pn)) off=true)(h2:Nat.beq (IZ ((l.drop pn).take qn)) n=true)(hy:aV O.g y=some (.agg l'))(U1:Nat.beq (IZ l') n=true)(hnt:l'.all Slot.plain=true)(hS:∀w,(sizeOf U).run F.P w= .ok n w):JM F ⟨none,.store U x y,ty,p,af,gd⟩ O ⟨O.g,(i,.box T (Qu l pn qn l') pb)::O.d⟩:=by
 replace U1:=gP U1;refine lC he rfl λρ a w C D=>?_;have K:=aY C D (Op.store U x y).operands;obtain⟨b,cs,E,Q,G,R⟩:=yF K (x:=x) (by simp[Op.operands]) hx he;have B:=Hp D hy;simp only[Slot.ok] at B;obtain⟨S,u,A⟩:=B;obtain⟨I,c,L,rfl,V,X,D6⟩:=Kj h1 h2 R;have M:=jF (P:=F.P) (w:=w) (U:=U) (a:=I) (c:=c) (e:=L) (v:=a.eval y) hS (by rw[u];simp[Value.cells,Jd A,U1]) (by rw[u];simpa[Value.cells] using EF hnt A) G V X;refine⟨b,w.setRow b (I++((a.eval y).cells.toList++L)).toArray,.inl (by rw[E];rfl),ff.setRow w b _,?_,λN=>?_⟩
 ·exact iC Q M
 ·refine⟨⟨b,_,E,setRow_heap w b _ _ T _ G,?_⟩,(C.own i _ he).2⟩;refine eI _ _ ?_ N (λ_ _=>rfl);rw[u];simpa[Value.cells] using D6 S A
end
def vJ:List (Nat×Nat)->Nat->Nat | [],i=>i+1000000000 | (a,b)::l,i=>bif Nat.beq a i then b else vJ l i
def okq:List (Nat×Nat)->Bool | []=>true | (_,b)::l=>Nat.blt b 1000000000 && (l.all λq=> !Nat.beq q.2 b) && okq l
theorem KI:∀(l:List (Nat×Nat)) (i:Nat),(∃q∈l,vJ l i=q.2)\/vJ l i=i+1000000000
 | [],i=> .inr rfl
 | (a,b)::l,i=>by
  unfold vJ;cases Nat.beq a i with
  |true=>simp
  |false=>
   rcases KI l i with⟨q,u,A⟩| h<;>grind
theorem KJ:∀(l:List (Nat×Nat)),okq l=true->∀q∈l,q.2<1000000000
 | [],_,q,h=>by grind
 | (a,b)::l,h,q,u=>by
  simp only[okq,bm] at h;rcases sK.1 u with rfl | u
  ·simp_all
  ·exact KJ l h.2 q u
theorem dO:∀{l:List (Nat×Nat)},okq l=true->∀i j,vJ l i=vJ l j->i=j
 | [],_,i,j,h=>by unfold vJ at h;omega
 | (a,b)::l,B,i,j,h=>by
  have C:=KJ _ B;simp only[okq,bm] at B;have D:=C (a,b) kg;have E:∀i,vJ l i≠b:=by
   intro i e;rcases KI l i with⟨q,A,u⟩| u
   ·have:=nE.1 B.1.2 q A;rw[<-u,e] at this;simp at this
   ·simp only at D;omega
  unfold vJ at h;cases A:Nat.beq a i with
  |true=>
   grind [Nat.beq,Nat.eq_of_beq_eq_true,absurd]
  |false=>
   cases u:Nat.beq a j with
   |true=>rw[A,u] at h;exact absurd h (E i)
   |false=>rw[A,u] at h;exact dO B.2 i j h
class PK {α:Type} [DecidableEq α] (e:Fu α) (D:outParam aA9):Prop where
 same:∀{S S' w w' x y u v},e.val x S w u->e.val y S' w' v->Instr.sameNow D u v=some (decide (x=y))
instance {κ:aA7}:PK (Fu.int κ) (.int κ):=⟨λh k=>by rw[(lG.1 h).1,(lG.1 k).1];simp[Instr.sameNow];rfl⟩
theorem Ou{α β:Type}[DecidableEq α]{e:Fu α}{D:aA9}[q:PK e D]{f:Fu β}{S S0:Nat->Prop}{w0 w1:aAf}{k:α}{u:aA4}(hu:e.val k S0 w0 u):∀(m:List (α×β)) (es:List MapEntry) (i:Nat),Xn e f S w1 m es->
  Instr.findNow D u es i=some ((kp (m.map (·.1)) k).bind λj=>(es[j]?).map λx=>(i+j,x.val))
 | [],[],i,_=>by simp[Instr.findNow,kp]
 | (a,b)::m,x::xs,i,⟨C,F,E⟩=>by
  have A:=Ou hu m xs (i+1) E;simp only[Instr.findNow,q.same hu C,V0,kp];by_cases c:a=k
  ·subst c;simp
  ·have B:decide (k=a)=false:=(by simp;exact λh=>c h.symm);rw[B,nS c];simp only[A];cases kp (m.map (·.1)) k<;>grind
 | [],_::_,_,h=>h.elim
 |_::_,[],_,h=>h.elim
theorem Ef{α β:Type}[DecidableEq α]{e:Fu α}{f:Fu β}{S:Nat->Prop}{w1:aAf}(k:α):∀(m:List (α×β)) (es:List MapEntry),Xn e f S w1 m es->
  (kp (m.map (·.1)) k=none->dQ m k=none)/\∀j,kp (m.map (·.1)) k=some j->∃v x,dQ m k=some v/\es[j]? =some x/\f.val v S w1 x.val
 | [],[],_=>⟨λ_=>rfl,λj h=>by simp[kp] at h⟩
 | (a,b)::m,x::xs,⟨C,D,u⟩=>by
  obtain⟨A,B⟩:=Ef k m xs u;simp[V0,kp,dQ];by_cases c:a=k<;>simp_all
 | [],_::_,h=>h.elim
 |_::_,[],h=>h.elim
theorem Ca{α β:Type}[DecidableEq α]{e:Fu α}{D:aA9}[PK e D]{P:aA5}{T:aAg}{f:Fu β}{S S0:Nat->Prop}{w0 w1:aAf}(hT:∀w,(underlying T).run P w= .ok D w){k:α}{u:aA4}(hu:e.val k S0 w0 u)(w:aAf)(m:List (α×β))(es:List MapEntry)(h:Xn e f S w1 m es):(Instr.findKey T u es).run P w= .ok ((kp (m.map (·.1)) k).bind λj=>(es[j]?).map λx=>(j,x.val)) w:=by
 have:=Ou hu m es 0 h
 simp_all [aGu,Instr.findKey,Sem.run_bind,Result.andThen_ok]
section
variable {d:Option Tmp}{x y z:aAp}[DecidableEq α]{ke:Fu α}{D:aA9}[PK ke D]{n':Nat}{M KT KT' VT:aAg}{f:Fu β}{m m':List (α×β)}{i:Nat}{k:α}
theorem zH{u:β}{zv:aA4}(hx:aV O.g x=some (.ref i))(hd:aF O.d i=some (.mp ke f m))(hy:aV O.g y=some (.v ke k))(hM:∀w,(underlying M).run F.P w= .ok (.map KT VT) w)(hT:∀w,(underlying KT).run F.P w= .ok D w)(hk:C7 n' F.P KT ke)(fu:Nat.ble n' 10000=true)(hz:∀w,(zeroValue VT).run F.P w= .ok zv w)(yj:∀S w,f.val u S w zv):JO F ⟨d,.lookup M x y true,ty,p,af,gd⟩ O (.q9 [.v f ((dQ m k).getD u),.v Fu.bool (dQ m k).isSome]) []:=by
 intro ρ S a w K;obtain⟨L,R,_⟩:=xF K (x:=x) (by simp[Op.operands]) hx hd;obtain⟨b,E,ck,N,T,Q⟩:=R;have A:=K.slot y (by simp[Op.operands]) _ hy;simp only[Slot.ok] at A;obtain⟨cs,A,U⟩:=A;have C:a.eval y=ke.pk cs:=U;have B:=Ca hT (k:=k) (u:=ke.pk cs) ⟨cs,A,rfl⟩ w m E.toList Q;have G:=hk 10000 (gQ fu) E.isEmpty w S w k cs A;have I:=MapKept.run_getObj_map (P:=F.P) T;obtain⟨V,X⟩:=Ef k m E.toList Q;have q9:∀{v:aA4} {t:β} {c:Bool},f.val t S w v->(Slot.q9 [.v f t,.v Fu.bool c]).ok ρ S w (.tuple #[v,.bool c]):=by
  intro v t c C;simp only[Slot.ok];refine⟨[v,.bool c],rfl,?_⟩;simp only[aG,Slot.ok];exact⟨v,[.bool c],rfl,C,.bool c,[],rfl,⟨[.bool c],rfl,rfl⟩,rfl⟩
 cases hm:kp (m.map (·.1)) k with
 |none=>
  rw[hm] at B;have:=V hm;rw[this];refine j6.value (w':=w) (v:= .tuple #[zv,.bool false]) ?_ (y9.same (q9 (yj _ _)));simp[execOp,L,N,C,Instr.lookup,hM,I,G,B,hz]
 |some j=>
  rw[hm] at B;obtain⟨v,q,e1,e2,e3⟩:=X j hm;rw[e1];rw[cA,e2] at B;refine j6.value (w':=w) (v:= .tuple #[q.val,.bool true]) ?_ (y9.same (q9 e3));simp[execOp,L,N,C,Instr.lookup,hM,I,G,B]
theorem Uh{u:β}{zv:aA4}(hx:aV O.g x=some (.ref i))(hd:aF O.d i=some (.mp ke f m))(hy:aV O.g y=some (.v ke k))(hM:∀w,(underlying M).run F.P w= .ok (.map KT VT) w)(hT:∀w,(underlying KT).run F.P w= .ok D w)(hk:C7 n' F.P KT ke)(fu:Nat.ble n' 10000=true)(hz:∀w,(zeroValue VT).run F.P w= .ok zv w)(yj:∀S w,f.val u S w zv):JO F ⟨d,.lookup M x y false,ty,p,af,gd⟩ O (.v f ((dQ m k).getD u)) []:=by
 intro ρ S a w K;obtain⟨L,R,_⟩:=xF K (x:=x) (by simp[Op.operands]) hx hd;obtain⟨b,C,ck,N,T,Q⟩:=R;have A:=K.slot y (by simp[Op.operands]) _ hy;simp only[Slot.ok] at A;obtain⟨cs,A,U⟩:=A;have E:a.eval y=ke.pk cs:=U;have B:=Ca hT (k:=k) (u:=ke.pk cs) ⟨cs,A,rfl⟩ w m C.toList Q;have G:=hk 10000 (gQ fu) C.isEmpty w S w k cs A;have I:=MapKept.run_getObj_map (P:=F.P) T;obtain⟨V,X⟩:=Ef k m C.toList Q;cases hm:kp (m.map (·.1)) k with
 |none=>
  rw[hm] at B;have:=V hm;rw[this];refine j6.value (w':=w) (v:=zv) ?_ (y9.same (by simp only[Slot.ok];exact yj _ _));simp[execOp,L,N,E,Instr.lookup,hM,I,G,B,hz]
 |some j=>
  rw[hm] at B;obtain⟨v,q,e1,e2,e3⟩:=X j hm;rw[e1];rw[cA,e2] at B;refine j6.value (w':=w) (v:=q.val) ?_ (y9.same (by simp only[Slot.ok];exact e3));simp[execOp,L,N,E,Instr.lookup,hM,I,G,B]
theorem cC{v:β}(hm:Cv m k v=some m')(hx:aV O.g x=some (.ref i))(hd:aF O.d i=some (.mp ke f m))(hy:aV O.g y=some (.v ke k))(hz:aV O.g z=some (.v f v))(hM:∀w,(underlying M).run F.P w= .ok (.map KT VT) w)(hT:∀w,(underlying KT).run F.P w= .ok D w)(hk:C7 n' F.P KT ke)(fu:Nat.ble n' 10000=true):JM F ⟨none,.mapUpdate M x y z,ty,p,af,gd⟩ O ⟨O.g,(i,.mp ke f m')::O.d⟩:=by
 obtain⟨ac,rfl⟩:=Ob hm;refine lC hd rfl λρ a w hc hs=>?_;have K:=aY hc hs (Op.mapUpdate M x y z).operands;obtain⟨h1,h2,_⟩:=xF K (x:=x) (by simp[Op.operands]) hx hd;obtain⟨b,B,C,G,I,L⟩:=h2;have A:=K.slot y (by simp[Op.operands]) _ hy;have N:=K.slot z (by simp[Op.operands]) _ hz;simp only[Slot.ok] at A N;have T:=A;obtain⟨cs,A,ad⟩:=A;have U:a.eval y=ke.pk cs:=ad;have Q:=Ca hT (k:=k) (u:=ke.pk cs) ⟨cs,A,rfl⟩ w m B.toList L;have V:kp (m.map (·.1)) k=none:=by
  cases hkp:kp (m.map (·.1)) k with
  |none=>rfl
  |some j=>obtain⟨v,_,S,_⟩:=(Ef k m B.toList L).2 j hkp;rw[ac] at S;cases S
 rw[V] at Q;have X:=hk 10000 (gQ fu) false w _ w k cs A;have hg:=MapKept.run_getObj_map (P:=F.P) I;have ab:=λo=>MapKept.run_setObj_map (P:=F.P) o I;have R:=MapKept.heap_set (o':= .map (B.push { key:=a.eval y,val:=a.eval z,born:=C }) (C+1)) I;refine⟨b,{ w with heap:=w.heap.setIfInBounds b (.map (B.push { key:=a.eval y,val:=a.eval z,born:=C }) (C+1)) },.inl (by rw[G];rfl),⟨by simp,R.2,rfl,rfl,rfl⟩,?_,λE=>?_⟩
 ·simp[execOp,h1,G,U,Instr.mapUpdate,hM,hg,X,Q,ab]
 ·refine⟨b,_,_,G,R.1,?_⟩;rw[aHa];exact Km (fN T E) (fN N E) (yC E L)
theorem Ov{α:Type}{e:Fu α}{S:Nat->Prop}{w:aAf}:∀{m:List (α×β)} {es:List MapEntry} (q:Nat),Xn e f S w m es->Xn e f S w (m.eraseIdx q) (es.eraseIdx q) | [],[],_,_=>trivial | (_,_)::_,_::_,0,⟨_,_,h⟩=>h | (_,_)::_,_::_,q+1,⟨h1,h2,h3⟩=>⟨h1,h2,Ov q h3⟩| [],_::_,_,h=>h.elim | _::_,[],_,h=>h.elim
theorem La(hx:aV O.g x=some (.ref i))(hd:aF O.d i=some (.mp ke f m))(hy:aV O.g y=some (.v ke k))(hM:∀w,(underlying M).run F.P w= .ok (.map KT VT) w)(hT:∀w,(underlying KT).run F.P w= .ok D w)(hk:C7 n' F.P KT ke)(fu:Nat.ble n' 10000=true):JM F ⟨none,.call ⟨.builtin .delete,#[x,y],#[M,KT']⟩,ty,p,af,gd⟩ O ⟨O.g,(i,.mp ke f (Gp m k))::O.d⟩:=by
 rintro a w ⟨⟨ρ,X,hs⟩,N2,G6⟩;have K:=aY X hs (Op.call ⟨.builtin .delete,#[x,y],#[M,KT']⟩).operands;obtain⟨V,h2,_⟩:=xF K (x:=x) (by simp[Op.operands,Call.operands]) hx hd;obtain⟨b,E,G,I,N,L⟩:=h2;have C:=K.slot y (by simp[Op.operands,Call.operands]) _ hy;simp only[Slot.ok] at C;obtain⟨cs,C,ac⟩:=C;have Q:a.eval y=ke.pk cs:=ac;have A:=Ca hT (k:=k) (u:=ke.pk cs) ⟨cs,C,rfl⟩ w m E.toList L;have R:=hk 10000 (gQ fu) E.isEmpty w _ w k cs C;have S:=MapKept.run_getObj_map (P:=F.P) N;have T:=λo=>MapKept.run_setObj_map (P:=F.P) o N;have ab:E2 (ρ i).v=some b:=by rw[I];rfl
 obtain⟨B,Y5,ad⟩:∃B:Array MapEntry,(execOp a.eval ⟨none,.call ⟨.builtin .delete,#[x,y],#[M,KT']⟩,ty,p,af,gd⟩).run F.P w= .ok (.value (.tuple #[])) { w with heap:=w.heap.setIfInBounds b (.map B G) }/\Xn ke f (Un F.S0 ρ O.d) w (Gp m k) B.toList:=by
  unfold Gp;cases hkp:kp (m.map (·.1)) k with
  |none=>
   rw[hkp] at A;simp only[Option.bind_none] at A;exact⟨E,by simp[execOp,resolve,invoke,builtin,Builtin.delete_,V,I,Q,hM,S,R,A,T],L⟩
  |some q=>
   rw[hkp] at A;obtain⟨_,xq,_,e2,_⟩:=(Ef k m E.toList L).2 q hkp;rw[cA,e2] at A;refine⟨E.eraseIdxIfInBounds q,by simp[execOp,resolve,invoke,builtin,Builtin.delete_,V,I,Q,hM,S,R,A,T],?_⟩;simp only[Array.toList_eraseIdxIfInBounds];exact Ov q L
 have U:=MapKept.heap_set (o':= .map B G) N;refine j6.value Y5 ?_
 obtain⟨k1,k2⟩:=X.gv (en':= .mp ke f (Gp m k)) hd (.inl ab) (b:=b) (w':={ w with heap:=w.heap.setIfInBounds b (.map B G) }) ⟨by simp,U.2,rfl,rfl,rfl⟩ (λhE=>by
  exact⟨b,B,G,I,U.1,yC hE ad⟩)
 exact⟨⟨ρ,k1,λt s ht=>Slot.j5 s _ (hs t s ht) k2 (λ_ _=>rfl)⟩,N2,G6⟩
end
def Fu.fns(gs:List aA6):Fu Nat where
 n:=1
 agg:=false
 ok i _ _ cs:=(∃g,gs[i]? =some g/\cs=[.func (.func g) #[] #[]])\/(gs[i]? =none/\cs=[.nilFunc])
 len h:=by rcases h with⟨_,_,rfl⟩|⟨_,rfl⟩<;>rfl
 one _:=rfl
 cell h c hc:=by rcases h with⟨_,_,rfl⟩|⟨_,rfl⟩<;>(simp at hc;subst hc;rfl)
 mono h _:=h
theorem RP{gs:List aA6}{i:Nat}{g:aA6}{S:Nat->Prop}{w:aAf}{u:aA4}(hg:gs[i]? =some g)(h:(Fu.fns gs).val i S w u):u= .func (.func g) #[] #[]:=by
 obtain⟨cs,h,rfl⟩:=h;rcases h with⟨B,A,rfl⟩|⟨A,rfl⟩
 ·rw[hg] at A;cases A;rfl
 grind
section
variable {d:Option Tmp}{x y z:aAp}
theorem Arg.toN{α:Type}{e:Fu α}{xs:List α}{F8:Bool}(G4:xs≠ [])(h:aV O.g x=some (.v (Fu.sl e) xs)):Arg O F8 x (.v (Fu.qh e) (false,xs)):=by
 have u:Arg O F8 x (.v (Fu.sl e) xs):= .dir h;intro ρ S a w K;have A:=u ρ S a w K;obtain⟨cs,B,C⟩:=A;exact⟨cs,KH G4 _ _ _ B,C⟩
theorem pY{o:aBa}{g:aA6}{new:List (Nat×j2)}(gs:List aA6)(i:Nat)(hg:gs[i]? =some g)(h:JO F o O (.G0 g []) new):JO F o O (.v (Fu.fns gs) i) new:=by
 intro ρ S a w K;refine(h ρ S a w K).mono ?_;rintro u G ⟨ρ',B,C,D,E⟩;refine⟨ρ',B,C,?_,E⟩;obtain⟨vs,rfl,A⟩:=D;subst A;exact⟨[.func (.func g) #[] #[]],.inl ⟨g,hg,rfl⟩,rfl⟩
theorem zZ(gs:List aA6)(i:Nat)(hg:gs[i]? =none):JO F ⟨d,.assign (.const .nilFunc),ty,p,af,gd⟩ O (.v (Fu.fns gs) i) []:=by
 intro ρ S a w K;refine j6.value (rfl) (y9.same ?_);exact⟨[.nilFunc],.inr ⟨hg,rfl⟩,rfl⟩
theorem FH{gs:List aA6}{i:Nat}{xs:List aAp}{ts:Array aAg}{ss:List Slot}{res:Slot}{C5 u5:(Nat->Nat)->List (Nat×j2)}{D:List (Nat×j2)}{K H:List Nat}(r:Nat->Nat)(hr:∀i j,r i=r j->i=j)(hx:aV O.g x=some (.v (Fu.fns gs) i))(hc:∃f,gs[i]? =some f/\(∀args w,(callFunc f args).run F.P w= .ok (.enter f args) w)/\∀A,A3 F.P f ss (C5 A) res (u5 A))(ha:T4 O r xs ss)(T7:∀A,T3 O r A (C5 A))(V8:∀A,G2 O r A (u5 A) D K)(hH:∀A,(C5 A).map (λx=>r x.1)=H)(D9:xT O.g (gS O.d H) H K D=true)(kz:Ko O H D=true)(D6:∀A,gH res (u5 A)=true)(xu:K.all (λk=>dK k H)=true)(J2:eR d F.N=true):JM F ⟨d,.call ⟨.value x,xs.toArray,ts⟩,ty,p,af,gd⟩ O ⟨gL d (res.map r) O.g,D++gS O.d H⟩:=by
 obtain⟨f,ac,B5,hc⟩:=hc;rintro a w ⟨⟨ρ,B,T⟩,hz,G6⟩;let A:Nat->Nat:=λi=>O3 (ρ (r i)).v
 have Q:∀i b,(ρ (r i)).v= .pointer (some ⟨b,0,none⟩)->A i=b:=λi b h=>by show O3 (ρ (r i)).v=b;rw[h];rfl
 have hd:=(T7 A).spec B.own Q;have U:∀k,(Un F.S0 ρ O.d k/\¬lF (λi=>ρ (r i)) (C5 A) k)->k<w.heap.size:=by
  rintro k ⟨h |⟨i,u,C,M⟩,_⟩
  ·exact gn (B.low k h) B.size
  ·exact(B.fresh i u k C M).2
 have R:Un (λk=>Un F.S0 ρ O.d k/\¬lF (λi=>ρ (r i)) (C5 A) k) (λi=>ρ (r i)) (C5 A)=Un F.S0 ρ O.d:=by
  funext k;refine propext ⟨λh=>?_,λh=>?_⟩
  ·rcases h with h |⟨i,u,C,M⟩
   ·exact h.1
   ·obtain⟨⟨L,E⟩,_⟩:=hd i u C;exact .inr ⟨r i,L,E,M⟩
  ·by_cases G:lF (λi=>ρ (r i)) (C5 A) k
   ·exact .inr G
   ·exact .inl ⟨h,G⟩
 have V:Ins (λk=>Un F.S0 ρ O.d k/\¬lF (λi=>ρ (r i)) (C5 A) k) (λi=>ρ (r i)) w (C5 A):=by
  refine⟨λi u h=>?_,λi u b h I=>?_,λi u b h I h'=>h'.2 ⟨i,u,h,I⟩,λi j u ab b hi hj bi bj=>?_⟩
  ·rw[R];exact(hd i u h).2
  ·obtain⟨⟨L,E⟩,_⟩:=hd i u h;exact(B.fresh _ _ b E I).2
  ·obtain⟨⟨L,E⟩,_⟩:=hd i u hi;obtain⟨⟨vc,h4⟩,_⟩:=hd j ab hj;exact hr _ _ (B.inj _ _ _ _ b E h4 bi bj)
 have K:=aY B T (Op.call ⟨.value x,xs.toArray,ts⟩).operands;have X:=ha.spec (ys:=(Op.call ⟨.value x,xs.toArray,ts⟩).operands) (λx hx=>by simp[Op.operands,Call.operands,hx]) K;have S:=K.slot x (by simp[Op.operands,Call.operands]) _ hx;simp only[Slot.ok] at S;have C:a.eval x= .func (.func f) #[] ([]:List aA4).toArray:=RP ac S;refine j6.enter (Od C B5) ?_;rw[rf];refine(hc A _ w _ _ U V (by rw[R];exact X)).mono ?_;rintro e w' ⟨v,ρ',rfl,G⟩;exact⟨v,rfl,St.M0 hr B T hz G6 Q (T7 A) (V8 A) (hH A) D9 kz (D6 A) xu J2 G⟩
end
section
variable {d:Option Tmp}{x y z:aAp}
theorem nO{α:Type}{T U:aAg}{l:List Slot}{i off:Nat}{s0:Slot}(j:Nat)(E:aAg)(e:Fu α)(hx:aV O.g x=some (.ptr i off))(he:aF O.d i=some (.box T l pb))(ho:jJ l off=some s0)(Y4:s0.sz=1)(hS:∀w,(sizeOf U).run F.P w= .ok 1 w)(hf:O.free [(j,.arr E e [])]=true):JM F ⟨none,.store U x (.const (.slice none 0 0)),ty,p,af,gd⟩ O ⟨O.g,(i,.box T (jK l off (.ref j)) pb)::(j,.arr E e [])::O.d⟩:=by
 rintro a w ⟨⟨ρ,hc,hs⟩,hz,G6⟩;obtain⟨ρ',I,h2,h3,h4⟩:=Kc (w:=w) (S:=Un F.S0 ρ O.d) E e j ρ;obtain⟨D,k2,k3⟩:=hc.put rfl hf I h2 h4;have G:∀t s,lk O.g t=some s->s.ok ρ' (Un F.S0 ρ' ([(j,.arr E e [])]++O.d)) w (a.tmps.getD t undef):=λt s B=>
  Slot.j5 s _ (hs t s B) k3 (λq hq=>congrArg LV.v (I q (by
   cases hy:aF [(j,j2.arr E e [])] q with
   |none=>rfl
   |some e=>exact absurd hq ((kB hf hy).1 t s B))))
 have Q:i≠j:=λh=>by
  subst h;have:=(kB hf (i:=i) (en:= .arr E e []) (by simp[aF])).2.1;rw[he] at this;cases this
 have C:aF ([(j,.arr E e [])]++O.d) i=some (.box T l pb):=by
  rw[gB];simp[aF,show Nat.beq j i=false from by cases hb:Nat.beq j i with
   |true=>exact absurd (gP hb).symm Q
   |false=>rfl,he]
 have K:=aY (O:=⟨O.g,[(j,.arr E e [])]++O.d⟩) D G (Op.store U x (.const (.slice none 0 0))).operands;obtain⟨b,cs,L,g2,M,g4⟩:=yF K (x:=x) (by simp[Op.operands]) hx C;obtain⟨N,c,ab,rfl,rfl,g5,g6⟩:=uD ho g4;have R:a.eval (.const (.slice none 0 0))= .slice none 0 0:=by simp[Act.eval]
 have A:=pV (s:= .ref j) rfl h3;rw[<-R] at A;have V:∀u∈(a.eval (.const (.slice none 0 0))).cells.toList,u.oneCell'=true:=λu hu=>Dw A u hu (λe=>by cases e);have X:=jF (P:=F.P) (w:=w) (U:=U) hS (by have:=mG A;simp only[rk] at this;exact this) V M rfl (by rw[mG g5];exact Y4);obtain⟨m1,m2⟩:=D.gv (en':= .box T (jK l N.length (.ref j)) pb) C (b:=b) (.inl (by rw[L];rfl)) (ff.setRow w b (N++((a.eval (.const (.slice none 0 0))).cells.toList++ab)).toArray) λhE=>by
  refine⟨⟨b,_,L,setRow_heap w b _ _ T _ M,?_⟩,(D.own i _ C).2⟩;refine eI _ _ (g6 (.ref j) _ ?_) hE (λ_ _=>rfl);refine(uR _ _ A ?_ (λ_ _=>rfl));exact⟨gC _,λk _ hn=>⟨rfl,λh=>hn ((k2 k).1 h)⟩⟩
 exact j6.skip (iC g2 X) ⟨⟨ρ',m1,λt s B=>Slot.j5 s _ (G t s B) m2 (λ_ _=>rfl)⟩,hz,G6⟩
def okd(q:List (Nat×Nat×Slot))(d:List (Nat×j2)):Prop:=∀x∈q,∃T l pb,aF d x.1=some (.box T l pb)/\jJ l x.2.1=some x.2.2
theorem KK{U:aAg}{i off:Nat}{s:Slot}{g:List (Nat×Slot)}{dd:List (Nat×j2)}(q:List (Nat×Nat×Slot))(k:Nat)(hd:okd q dd)(hk:q[k]? =some (i,off,s))(hld:∀T l pb,aF dd i=some (.box T l pb)->jJ l off=some s->JO F ⟨d,.load U x,ty,p,af,gd⟩ ⟨g,dd⟩ s []):JO F ⟨d,.load U x,ty,p,af,gd⟩ ⟨g,dd⟩ s []:=by
 obtain⟨T,l,pb,u,A⟩:=hd _ (aEd hk)
 grind
def okE(x:Nat×Nat×Slot):j2->Prop | .box _ l _=>jJ l x.2.1=some x.2.2 | _=>False
def okI(x:Nat×Nat×Slot)(nw:List (Nat×j2))(dl:List Nat):Prop:=match aF nw x.1 with | some u=>okE x u | none=>dK x.1 dl=false
def okT(x:Nat×Nat×Slot):List E4->Prop | []=>True | it::r=>okI x it.nw it.dl/\okT x r
def okQ(d:List (Nat×j2))(its:List E4):List (Nat×Nat×Slot)->Prop
 | []=>True
 |x::r=>((match aF d x.1 with | some u=>okE x u | none=>False)/\okT x its)/\okQ d its r
theorem RQ{x:Nat×Nat×Slot}{en:j2}(h:okE x en):∃T l pb,en= .box T l pb/\jJ l x.2.1=some x.2.2:=by
 cases en with
 |box T l pb=>exact⟨T,l,pb,rfl,h⟩
 |_=>exact h.elim
theorem KL{x:Nat×Nat×Slot}:∀{its:List E4} {i:Nat},okT x its->i<its.length->okI x (its.getD i ⟨.top,[],[],[],[]⟩).nw (its.getD i ⟨.top,[],[],[],[]⟩).dl
 | [],_,_,h=>rfl
 |_::_,0,h,_=>h.1
 |_::r,i+1,h,u=>by have:=KL (i:=i) h.2 (by grind);grind
theorem BU{x:Nat×Nat×Slot}{nw:Nat->List (Nat×j2)}{dl:Nat->List Nat}{d:List (Nat×j2)}{L:Nat->Bool}(h0:∃en,aF d x.1=some en/\okE x en):∀{n:Nat},(∀i,i<n->okI x (nw i) (dl i))->∃en,aF (Ae nw dl d n L) x.1=some en/\okE x en
 | 0,_=>h0
 |n+1,h=>by
  have A:=BU (L:=L) h0 (n:=n) λi C=>h i (by omega);simp only[Ae];cases L n with
  |false=>exact A
  |true=>
   have u:=h n (by omega);simp only[fE,gB];unfold okI at u;cases hx:aF (nw n) x.1 with
   |some en=>rw[hx] at u;exact⟨en,rfl,u⟩
   |none=>
    rw[hx] at u;have:x.1∉dl n:=λB=>by rw[iD.2 B] at u;cases u
    simp_all [qO,nS]
theorem BV{d:List (Nat×j2)}{its:List E4}{n:Nat}(hn:n=its.length):∀{q:List (Nat×Nat×Slot)},okQ d its q->∀L,okd q (Ae (λi=>(its.getD i ⟨.top,[],[],[],[]⟩).nw) (λi=>(its.getD i ⟨.top,[],[],[],[]⟩).dl) d n L)
 | [],_,_=>λ_ h=>by cases h
 |x::r,h,L=>λy u=>by
  rcases sK.1 u with rfl | u
  ·have A:∃en,aF d y.1=some en/\okE y en:=by
    have:=h.1.1
    grind
   subst hn;obtain⟨en,D,C⟩:=BU (L:=L) A λi B=>KL h.1.2 B;obtain⟨T,l,E,rfl,F⟩:=RQ C
   grind
  ·exact BV hn h.2 L y u
theorem BW{α:Type}{xs ys:List α}{lo hi:Int}(hs:Sw.sub xs lo hi=some ys):ys.length=hi.toNat - lo.toNat:=by
 obtain⟨u,A,B,rfl⟩:=eB hs
 grind
theorem RR{α:Type}{xs ys:List α}{lo hi m:Int}{z:α}(hs:Sw.sub xs lo hi=some ys)(hz:Sw.idx ys m=some z):xs[lo.toNat+m.toNat]? =some z:=by
 obtain⟨u,A,B,rfl⟩:=eB hs;obtain⟨C,D,E⟩:=iX hz
 grind
theorem FI{α:Type}{e:Fu α}{xs ys:List α}{lo hi:Int}{T U E:aAg}{i:Nat}(hs:Sw.sub xs lo hi=some ys)(hx:aV O.g x=some (.sub i (lo.toNat*e.n) (hi.toNat - lo.toNat)))(he:aF O.d i=some (.arr T e xs))(hU:∀w,(underlying U).run F.P w= .ok (.slice E) w):JO F ⟨d,.call ⟨.builtin .len,#[x],#[U]⟩,ty,p,af,gd⟩ O (.v (Fu.int .i64) (ys.length:Int)) []:=by
 intro ρ S a w K;have C:=BW hs;obtain⟨Q,R,G,_⟩:=eB hs;have A:=K.slot x (by simp[Op.operands,Call.operands]) _ hx;simp only[Slot.ok] at A;obtain⟨⟨I,l0,V,L⟩,c,o,X,g2,M⟩:=A;have D:K0 T e xs S w (ρ i).v:=(K.U4 x (by simp[Op.operands,Call.operands]) _ hx i (by simp[Slot.E1]) _ he).1;have u:∃B,a.eval x= .slice B (hi.toNat - lo.toNat) c:=by
  rw[M,L];cases I with
  |none=>exact⟨_,rfl⟩
  |some q=>exact⟨_,rfl⟩
 obtain⟨B,u⟩:=u;have N:(ys.length:Int)<9223372036854775808:=by
  rcases D with⟨rfl,_⟩|⟨b,ab,ac,cs,ad,_,_,_,_,_,U1⟩
  ·simp at G;omega
  ·omega
 refine j6.value (w':=w) (v:= .int .i64 ys.length) ?_ (y9.same (pE (yW (by omega)) ρ S w));rw[C];simp[execOp,resolve,invoke,builtin,u,Du hU]
theorem FJ{α:Type}{e:Fu α}{xs ys:List α}{lo hi:Int}{T U E:aAg}{k:aA7}{m:Int}{z:α}{i:Nat}(hs:Sw.sub xs lo hi=some ys)(hz:Sw.idx ys m=some z)(hx:aV O.g x=some (.sub i (lo.toNat*e.n) (hi.toNat - lo.toNat)))(he:aF O.d i=some (.arr T e xs))(hy:aV O.g y=some (.v (Fu.int k) m))(hU:∀w,(underlying U).run F.P w= .ok (.slice E) w)(hE:∀w,(sizeOf E).run F.P w= .ok e.n w):JO F ⟨d,.indexAddr U x y,ty,p,af,gd⟩ O (.el i (lo.toNat+m.toNat) e.n 0) []:=by
 intro ρ S a w K;have R:=BW hs;obtain⟨V,X,M,_⟩:=eB hs;obtain⟨N,i1,i2⟩:=iX hz;have C:=K.slot x (by simp[Op.operands]) _ hx;simp only[Slot.ok] at C;obtain⟨⟨a0,l0,c0,g0⟩,c,o,g1,u,Q⟩:=C;have D:K0 T e xs S w (ρ i).v:=(K.U4 x (by simp[Op.operands]) _ hx i (by simp[Slot.E1]) _ he).1;have G:=(dC K (x:=y) (by simp[Op.operands]) hy).1;rcases D with⟨rfl,_⟩|⟨b,cap,A,cs,ab,B,_⟩
 ·simp at M;omega
 have I:o=lo.toNat*e.n:=by
  rcases u with u | u
  ·exact u
  ·omega
 subst I;have L:a.eval x= .slice (some ⟨b,A.length+lo.toNat*e.n,none⟩) (hi.toNat - lo.toNat) c:=by rw[Q,B];rfl
 refine j6.value (w':=w) (v:= .pointer (some ⟨b,A.length+lo.toNat*e.n+m.toNat*e.n,none⟩)) ?_ (y9.same (by simp only[Slot.ok];exact⟨⟨b,_,_,_,B⟩,by rw[B];simp[Jw,jk,Nat.add_assoc]⟩));have:=Ao (P:=F.P) (w:=w) (b:=b) (off:=A.length+lo.toNat*e.n) (len:=hi.toNat - lo.toNat) (cap:=c) (k:=k) hU hE N (by omega:m<((hi.toNat - lo.toNat:Nat):Int));simp only[execOp,L,G];simp[this]
end
section
variable {σ2:AS}{its:List E4}{d:Option Tmp}{o:aBa}
theorem E9.aOs{gs:List aA6}{fi:Nat}{x:aAp}{xs:List aAp}{ts:Array aAg}{ss:List Slot}{res:Slot}{C5 u5:(Nat->Nat)->List (Nat×j2)}{D:List (Nat×j2)}{K H:List Nat}(g:GK ops O.g ⟨d,.call ⟨.value x,xs.toArray,ts⟩,ty,p,af,gd⟩ true)(r:Nat->Nat)(hr:∀i j,r i=r j->i=j)(hx:aV O.g x=some (.v (Fu.fns gs) fi))(hc:∃f,gs[fi]? =some f/\(∀args w,(callFunc f args).run F.P w= .ok (.enter f args) w)/\∀A,A3 F.P f ss (C5 A) res (u5 A))(ha:T4 O r xs ss)(T7:∀A,T3 O r A (C5 A))(V8:∀A,G2 O r A (u5 A) D K)(hH:∀A,(C5 A).map (λx=>r x.1)=H)(hDK:D.all (λx=> !dK x.1 H || dK x.1 K)=true)(_:Ko O H D=true)(D6:∀A,gH res (u5 A)=true)(xu:K.all (λk=>dK k H)=true)(J2:eR d F.N=true)(k:E9 F ops OK os ⟨gL d (res.map r) O.g,D++gS O.d H⟩ its O'):E9 F ops OK (⟨d,.call ⟨.value x,xs.toArray,ts⟩,ty,p,af,gd⟩::os) O (⟨res.map r,D,D.filter (λx=> !dK x.1 H),Bv O.g ⟨d,.call ⟨.value x,xs.toArray,ts⟩,ty,p,af,gd⟩++H,H⟩::its) O':=by
 refine .mvx (nw:=D) (fr:=D.filter (λx=> !dK x.1 H)) (dl:=H) (ex:=H) g J2 (λσ2 L M R=>?_) k;have Q:∀x∈D,dK x.1 H=true->dK x.1 K=true:=λx hx E=>by
  have:=nE.1 hDK x hx;simpa[E] using this
 refine FH r hr ((L.ev (by simp[Op.operands,Call.operands])).trans hx) hc (ha.loc L λx hx=>by simp[Op.operands,Call.operands,hx]) (λA=>(T7 A).loc λl B=>M l (by rw[<-hH A];exact B)) (λA=>(V8 A).loc λl B=>M l (iD.1 (nE.1 xu l B))) hH ?_ ?_ D6 xu J2
 ·have G:∀l,(!dK l H || dK l K || !dK l (D.map (·.1)))=true:=by
   intro l;cases u:dK l H with
   |false=>simp
   |true=>
    cases h2:dK l (D.map (·.1)) with
    |false=>simp
    |true=>
     obtain⟨x,hx,rfl⟩:=ot.1 (iD.1 h2);simp[Q x hx u]
  unfold xT;simp only[bm,nE];exact⟨λy _ l _=>G l,λy _ l _=>G l⟩
 ·unfold Ko;rw[nE];intro x hx;cases E:dK x.1 H with
  |true=>simp
  |false=>
   have u:=nE.1 R x (aFg.2 ⟨hx,by simp[E]⟩);simp only[bm,nE] at u;have I:∀l:List Nat,(!l.contains x.1)=true->(!dK x.1 l)=true:=by
    intro l B;cases h2:dK x.1 l with
    |false=>rfl
    |true=>have:=iD.1 h2;simp at B;exact absurd this B
   simp only[aGd,bm,nE];exact .inr ⟨λy C=>⟨(u.2 y C).1,I _ (u.2 y C).2⟩,λy C=>I _ (u.1 y C)⟩
end
def aH(v:aA4):DE (List Obj) where
 ok o _ w u _:=(u.v= .pointer (some ⟨6,0,none⟩)/\w.cell? ⟨6,0,none⟩=some v)/\∀i,i<o.length->w.heap[i]? =o[i]?/\mS u i
 mono:=by
  rintro q S F w G u l ⟨⟨C,D⟩,B⟩ _ E;have:=E 6 (.inl (by rw[C];rfl));refine⟨⟨C,?_⟩,λi A=>⟨by rw[E i (B i A).2];exact(B i A).1,(B i A).2⟩⟩;unfold World.cell? at D ⊢;rw[this];exact D
theorem pL{v:aA4}{x y:List Obj}:∀S S' w w' u u',(aH v).ok x S' w' u' []->(aH v).ok y S w u []->u'.v=u.v:=λ_ _ _ _ _ _ A B=>by rw[A.1.1,B.1.1]
section
variable {d:Option Tmp}{x y z:aAp}
theorem Ui{T T0 E:aAg}{l:List Slot}{i off b:Nat}(hx:aV O.g x=some (.ptr i off))(he:aF O.d i=some (.box T0 l (some b)))(hT:∀w,(underlying T).run F.P w= .ok (.pointer E) w):JO F ⟨d,.makeInterface T x,ty,p,af,gd⟩ O (.v (Fu.H2 (.iface T (.pointer (some ⟨b,off,none⟩))) rfl) ()) []:=by
 intro ρ S a w K;have h:=K.slot x (by simp[Op.operands]) _ hx;obtain⟨⟨b0,C⟩,u⟩:=h;have A:=(K.U4 x (by simp[Op.operands]) _ hx i (by simp[Slot.E1]) _ he).1.2 b rfl;rw[A] at u;have B:a.eval x= .pointer (some ⟨b,off,none⟩):=u;exact j6.value (w':=w) (v:= .iface T (.pointer (some ⟨b,off,none⟩))) (by simp[execOp,B,Instr.makeInterface,hT]) (y9.same (zB.2 rfl))
theorem Ht:∀{l:List Slot} {off:Nat} {s:Slot},jJ l off=some s->jK l off s=l
 | [],_,_,h=>rfl
 |t::r,off,s,h=>by
  simp only[jJ] at h;simp only[jK];cases h0:Nat.beq off 0 with
  |true=>grind
  |false=>
   rw[h0] at h;simp[cG] at h ⊢;cases h1:Nat.ble t.sz off with
   |true=>rw[h1] at h;rw[Ht h]
   |false=>grind
theorem vB{w:aAf}{b:Nat}{pre c post:List aA4}{u v:aA4}{T:aAg}(hc:c=[u])(h:w.heap[b]? =some (.cells (pre++(c++post)).toArray T (0,0))):ff b w (w.setCell ⟨b,pre.length,none⟩ v)/\(w.setCell ⟨b,pre.length,none⟩ v).heap[b]? =some (.cells (pre++([v]++post)).toArray T (0,0)):=by
 refine⟨⟨by simp[World.setCell],λk A=>?_,rfl,rfl,rfl⟩,?_⟩
 ·grind [World.setCell]
 simp_all [World.setCell,Array.getElem?_modify,K4,aEp]
theorem KN{f:aA6}{ts:Array aAg}{ET PT T:aAg}{i off G b:Nat}{l:List Slot}{v:aA4}{e:Option Int}{ux:Int}{go:List Obj}(ft:∀t w,Calls F.P f #[.nilIface,t] w λe w'=>e= .returned (.bool false)/\w'=w)(bL9:∀(n:Int) (t:aBc) (ux:aA4) (w:aAf),w.cell? ⟨6,0,none⟩=some v->w.cell? t=some ux->w.frozen? t=false->Calls F.P f #[.iface ET (.int .i64 n),.iface PT (.pointer (some t))] w λev w'=>ev= .returned (.bool true)/\∃o1 o2 o3 o4,w'=((((w.alloc o1).alloc o2).alloc o3).alloc o4).setCell t (.int .i64 n))(B5:∀args w,(callFunc f args).run F.P w= .ok (.enter f args) w)(hx:aV O.g x=some (.v (Fu.err ET) e))(hy:aV O.g y=some (.v (Fu.H2 (.iface PT (.pointer (some ⟨b,off,none⟩))) rfl) ()))(he:aF O.d i=some (.box T l (some b)))(ho:jJ l off=some (.v (Fu.int .i64) ux))(hG:aF O.d G=some (.dp (aH v) go []))(hd:eR d F.N=true):JM F ⟨d,.call ⟨.value (.func f),[x,y].toArray,ts⟩,ty,p,af,gd⟩ O ⟨gL d (.v Fu.bool e.isSome) O.g,(i,.box T (jK l off (.v (Fu.int .i64) (e.getD ux))) (some b))::O.d⟩:=by
 rintro a w ⟨⟨ρ,B,V⟩,hz,G6⟩;have K:=aY B V (Op.call ⟨.value (.func f),[x,y].toArray,ts⟩).operands;have Q:=K.slot x (by simp[Op.operands,Call.operands]) _ hx;have E:=K.slot y (by simp[Op.operands,Call.operands]) _ hy;simp only[Slot.ok] at Q E;have E:=zB.1 E;have fin:∀(q:Bool) (w':aAf) (D:List Slot),Core F ((i,.box T D (some b))::O.d) ρ w'->Ext (Un F.S0 ρ O.d) (Un F.S0 ρ ((i,.box T D (some b))::O.d)) w w'->
   St F ⟨gL d (.v Fu.bool q) O.g,(i,.box T D (some b))::O.d⟩ (a.put d (.bool q)) w':=by
  intro q w' D I S;have R:St F ⟨O.g,(i,.box T D (some b))::O.d⟩ a w':=⟨⟨ρ,I,λt s ht=>Slot.j5 s _ (V t s ht) S (λ_ _=>rfl)⟩,hz,G6⟩;obtain⟨⟨ρ2,L,C⟩,U,A⟩:=R;have:=St.put (O:=⟨O.g,(i,.box T D (some b))::O.d⟩) (s:= .v Fu.bool q) (new:=[]) (v:= .bool q) (dst:=d) L C U A rfl hd (y9.same (iA _ ρ2 _ w'));cases d with
  |none=>exact this
  |some t=>exact this
 refine j6.enter (pW B5) ?_;cases e with
 |none=>
  have I:=qM.1 Q;simp only[V0,aGw,I,E];refine(ft _ w).mono ?_;rintro ev w' ⟨rfl,rfl⟩;refine⟨_,rfl,?_⟩;have hl:jK l off (.v (Fu.int .i64) ((none:Option Int).getD ux))=l:=Ht ho;rw[hl];have R:St F ⟨gL d (.v Fu.bool false) O.g,O.d⟩ (a.put d (.bool false)) w':=by
   have:=St.put (s:= .v Fu.bool false) (new:=[]) (v:= .bool false) (dst:=d) B V hz G6 rfl hd (y9.same (iA _ ρ _ w'));cases d with
   |none=>exact this
   |some t=>exact this
  show St F ⟨gL d (.v Fu.bool false) O.g,(i,.box T l (some b))::O.d⟩ _ _;refine St.congr (O:=⟨gL d (.v Fu.bool false) O.g,O.d⟩) (λ_=>rfl) (λq=>?_) R;show aF ((i,.box T l (some b))::O.d) q=aF O.d q;rw[bA];split
  ·rename_i h;subst h;exact he.symm
  ·rfl
 |some n=>
  obtain⟨I,S⟩:=vO.1 Q;simp only[V0,aGw,I,E];obtain⟨⟨b0,cs,L,C,U⟩,A⟩:=B.own i _ he;have A:=A b rfl;rw[A] at L;simp only[Value.pointer.injEq,W6,Addr.mk.injEq,and_true] at L;subst L;obtain⟨M,c,ae,rfl,rfl,q1,q2⟩:=uD ho U;simp only[Slot.I2] at q1;obtain⟨u,hu⟩:∃u,c=[u]:=by
   have:=(Fu.int .i64).len q1
   match c,this with
   | [u],_=>exact⟨u,rfl⟩
  have P4:w.cell? ⟨b,M.length,none⟩=some u:=by simp[World.cell?,C,hu]
  have ab:w.frozen? ⟨b,M.length,none⟩=false:=by simp[World.frozen?,C]
  have ac:=(B.own G _ hG).1.2;refine(bL9 n ⟨b,M.length,none⟩ u w ac P4 ab).mono ?_;rintro ev w' ⟨rfl,o1,o2,o3,o4,rfl⟩;refine⟨_,rfl,?_⟩;have X:Below w.heap.size w ((((w.alloc o1).alloc o2).alloc o3).alloc o4):=
   ((((Below.refl _ w).alloc (gC _) o1).alloc (by simp) o2).alloc (by simp;omega) o3).alloc (by simp;omega) o4
  obtain⟨k1,k2⟩:=B.below X;have B0:b<w.heap.size:=by
   rcases jl b w.heap.size with h | h
   ·exact h
   ·rw[aEl h] at C;cases C
  have ad:=(X.block b B0).trans C;obtain⟨r1,r2⟩:=vB (v:= .int .i64 n) hu ad;obtain⟨m1,m2⟩:=k1.gv (en':= .box T (jK l M.length (.v (Fu.int .i64) n)) (some b)) he (.inl (by rw[A];rfl)) r1 λhE=>by
   refine⟨⟨b,_,A,r2,?_⟩,λc B=>by cases B;exact A⟩;have q3:=q2 (.v (Fu.int .i64) n) [.int .i64 n] (by simp only[Slot.I2];exact⟨rfl,S⟩);exact eI _ _ (eI _ _ q3 k2 (λ_ _=>rfl)) hE (λ_ _=>rfl)
  exact fin true _ _ m1 (k2.trans m2)
end
def del{α:Type}(xs:List α)(lo hi:Int):Option (List α):=(sub xs lo hi).bind λ_=>some (xs.take lo.toNat++xs.drop hi.toNat)
section
variable {d:Option Tmp}{x y z:aAp}
theorem kP{g:Nat}:JO F ⟨d,.assign (.func g),ty,p,af,gd⟩ O (.G0 g []) []:=
 λρ S a w _=>j6.value (w':=w) (v:= .func (.func g) #[] #[]) (by simp[execOp,Act.eval]) (y9.same (JI g ρ S w))
def ry(O:AS)(xs:List aAp)(ss:List Slot):Prop:=∀(F:w8) (ρ:Nat->LV) (a:aBe) (w:aAf),Core F O.d ρ w->(∀t s,lk O.g t=some s->s.ok ρ (Un F.S0 ρ O.d) w (a.tmps.getD t undef))->aG ρ (Un F.S0 ρ []) w ss (xs.map a.eval)
theorem ry.nil:ry O [] []:=λ_ _ _ _ _ _=>by simp[aG]
theorem ry.cons{s s':Slot}{xs:List aAp}{l:List Slot}(hx:aV O.g x=some s)(h:ki O id [] s s')(k:ry O xs l):ry O (x::xs) (s'::l):=by
 intro F ρ a w L4 hs
 have B:Ext (Un F.S0 ρ O.d) (Un F.S0 (λi=>ρ (id i)) []) w w:=⟨gC _,λq _ D=>⟨rfl,λh=>D (by
  rcases h with h |⟨i,A,h,_⟩
  ·exact .inl h
  ·simp[aF] at h)⟩⟩
 have C:=(ki.spec (d':=[]) (r:=id) L4 B (λj A E _ b G u=>by
  rcases u with u |⟨i,A,u,_⟩
  ·exact L4.apart j A b E G u
  ·simp[aF] at u) h).1 _ (Hp hs hx)
 simp only[V0,aG];exact⟨_,_,rfl,C,k F ρ a w L4 hs⟩
theorem Ow{f:aA6}{xs:List aAp}{ts:Array aAg}{ss:List Slot}{res:Slot}(hc:O4 F.P f ss res [])(B5:∀args w,(callFunc f args).run F.P w= .ok (.enter f args) w)(ha:ry O xs ss)(hf:D7 res)(hd:eR d F.N=true):JM F ⟨d,.call ⟨.value (.func f),xs.toArray,ts⟩,ty,p,af,gd⟩ O ⟨gL d res O.g,O.d⟩:=by
 rintro a w ⟨⟨ρ,u,B⟩,D,E⟩;refine j6.enter (pW B5) ?_;have C:∀k,Un F.S0 ρ [] k->k<w.heap.size:=by
  rintro k (h |⟨i,A,h,_⟩)
  ·exact gn (u.low k h) u.size
  ·simp[aF] at h
 refine(hc (Un F.S0 ρ []) w _ ρ C (ha F ρ a w u B)).mono ?_;rintro e M ⟨v,rfl,ρ',G,I,K,Q⟩;refine⟨v,rfl,?_⟩;have:=St.put (dst:=d) u B D E rfl hd ⟨ρ',G,I,hf _ _ _ _ _ K,⟨λi A h=>by simp[aF] at h,λi A b h=>by simp[aF] at h,λi j A L b h=>by simp[aF] at h⟩⟩;cases d with
 |none=>exact this
 |some t=>exact this
end
section
variable {its:List E4}{d:Option Tmp}{x y z:aAp}{e:Fu α}{T:aAg}{i:Nat}
theorem E9.bIy{xs ys:List α}{lo:Int}{k:aA7}{U E:aAg}(g:GK ops O.g ⟨d,.slice U x (some y) none none,ty,p,af,gd⟩ true)(j:Nat)(hs:Sw.sub xs lo (xs.length:Int)=some ys)(hx:aV O.g x=some (.ref i))(he:aF O.d i=some (.arr T e xs))(hy:aV O.g y=some (.v (Fu.int k) lo))(hU:∀w,(underlying U).run F.P w= .ok (.slice E) w)(hE:∀w,(sizeOf E).run F.P w= .ok e.n w)(_:O.free [(j,.arr T e ys)]=true)(hd:eR d F.N=true)(q:E9 F ops OK os ⟨gL d (.ref j) O.g,(j,.arr T e ys)::rC O.d i⟩ its O'):E9 F ops OK (⟨d,.slice U x (some y) none none,ty,p,af,gd⟩::os) O (⟨.ref j,[(j,.arr T e ys)],[(j,.arr T e ys)],Bv O.g ⟨d,.slice U x (some y) none none,ty,p,af,gd⟩,[i]⟩::its) O':=
 .mv (nw:=[(j,.arr T e ys)]) (dl:=[i]) g hd (λσ2 u A=>RG j hs ((u.ev (by simp[Op.operands])).trans hx) ((u.U4 (x:=x) (by simp[Op.operands]) hx (by simp[Slot.E1])).trans he) ((u.ev (by simp[Op.operands])).trans hy) hU hE A hd) q
theorem E9.xb{f:aA6}{xs:List aAp}{ts:Array aAg}{ss:List Slot}{res:Slot}(g:GK ops O.g ⟨d,.call ⟨.value (.func f),xs.toArray,ts⟩,ty,p,af,gd⟩ true)(ex:List Nat)(hc:O4 F.P f ss res [])(B5:∀args w,(callFunc f args).run F.P w= .ok (.enter f args) w)(ha:∀σ2,Loc ops ⟨d,.call ⟨.value (.func f),xs.toArray,ts⟩,ty,p,af,gd⟩ O σ2->(∀l∈ex,aF σ2.d l=aF O.d l)->ry σ2 xs ss)(hf:D7 res)(hd:eR d F.N=true)(k:E9 F ops OK os ⟨gL d res O.g,O.d⟩ its O'):E9 F ops OK (⟨d,.call ⟨.value (.func f),xs.toArray,ts⟩,ty,p,af,gd⟩::os) O (⟨res,[],[],Bv O.g ⟨d,.call ⟨.value (.func f),xs.toArray,ts⟩,ty,p,af,gd⟩++ex,[]⟩::its) O':= .mvx (nw:=[]) (fr:=[]) (dl:=[]) (ex:=ex) g hd (λσ2 u A _=>Ow hc B5 (ha σ2 u A) hf hd) k
end
end Go.Sw
