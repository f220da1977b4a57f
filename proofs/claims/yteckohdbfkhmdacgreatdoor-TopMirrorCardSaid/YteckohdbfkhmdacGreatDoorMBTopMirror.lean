/- The library over the model: how values lie, what is ours in memory, rules for operations, calls, loops. Conditions: none. -/
import Derived.Test.YteckohdbfkhmdacGreatDoorMATopMirror
import Derived.Laws.Externs
set_option linter.unusedVariables false
set_option linter.unusedSimpArgs false
namespace Go.Sw
open Go Go.RowKit
def X8(P:Program)(gf:FuncId)(cap:List Slot)(items:List (List Slot)):Prop:=
 ∀(S:Nat->Prop) (w:World) (vs:List Value) (ρ:Nat->LV) (l:Nat) (J:Nat->World->Prop) (Jx:World->Prop),
  (∀k,S k->k<w.heap.size)->aW ρ S w cap vs->J 0 w->
  (∀k W,J k W->w.heap.size<=W.heap.size/\∀b,b<w.heap.size->¬S b->W.heap[b]? =w.heap[b]?)->
  (∀k W h,J k W->Below W.heap.size W h->J k h)->(∀W h,Jx W->Below W.heap.size W h->Jx h)->
  (∀k item W0 W us,items[k]? =some item->J k W0->Below W0.heap.size W0 W->aW ρ (fun j=>S j\/(w.heap.size<=j/\j<W0.heap.size)) W item us->∃fn tmps assign body,(Instr.yield l us.toArray).run P W= .ok (.round l fn tmps assign body) W/\
   RoundIn Fence.wide 0 P l fn tmps assign body W fun e h=>(e= .returned (.bool true)/\J (k+1) h)\/(e= .returned (.bool false)/\Jx h))->
  Calls P gf (.func (.yield l) #[] #[]::vs).toArray w fun e u=>(∃v,e= .returned v)/\(J items.length u\/Jx u)
def Z8{ι α δ:Type}(step:ι->α->Option (Step α δ)):List ι->α->Option (Ex α δ)
 | [],y=>some (.WB y)
 |i::is,y=>match step i y with
  |none=>none
  |some (.next h)=>Z8 step is h
  |some (.done z)=>some (.ret z)
def FR:List Tmp->List Slot->List (Nat×Slot)->List (Nat×Slot)
 |t::ts,s::ss,g=>FR ts ss ((t,s)::g)
 |_,_,g=>g
def Oo(A:Nat->Nat):List (Nat×VH)->List (Nat×VH)
 | []=>[]
 | (i,h)::d=>(i,match h with | .box T l _=> .box T l (some (A i)) | .arr T e xs=> .arr T e xs | .mp e f m=> .mp e f m | .dp D x u=> .dp D x u)::Oo A d
theorem Bc{A:Nat->Nat}:∀{d:List (Nat×VH)} {i:Nat} {en:VH},aX (Oo A d) i=some en->∃YT,aX d i=some YT/\((∃T l pb,YT= .box T l pb/\en= .box T l (some (A i)))\/en=YT)
 | [],i,en,h=>by simp[Oo,aX] at h
 | (j,e)::d,i,en,h=>by
  simp only[Oo] at h;rw[cK] at h;rw[cK];split at h
  ·rename_i u;subst u;cases h;rw[WJ rfl];refine⟨_,rfl,?_⟩;cases e with
   |box T l pb=>exact .inl ⟨T,l,pb,rfl,rfl⟩
   |arr T e xs=>exact .inr rfl
   |mp e f m=>exact .inr rfl
   |dp D x z=>exact .inr rfl
  ·rename_i u;rw[WA u];exact Bc h
theorem Tt{A:Nat->Nat}:∀{d:List (Nat×VH)} {i:Nat} {en:VH},aX d i=some en->∃en',aX (Oo A d) i=some en'
 | [],i,en,h=>by simp[aX] at h
 | (j,e)::d,i,en,h=>by
  simp only[Oo];rw[cK] at h ⊢;split
  ·exact⟨_,rfl⟩
  ·rename_i u;rw[WA u] at h;exact Tt h
inductive w8 (A:Nat->Nat) (d:List (Nat×VH)):List Nat->Prop
 |nil:w8 A d []
 |cons {i:Nat} {T:TypeId} {l:List Slot} {is:List Nat}:aX d i=some (.box T l (some (A i)))->w8 A d is->w8 A d (i::is)
theorem w8.spec{A:Nat->Nat}{d:List (Nat×VH)}{is:List Nat}(h:w8 A d is):∀i∈is,∃T l,aX d i=some (.box T l (some (A i))):=by
 induction h with
 |nil=>intro i h;simp at h
 |cons z _ B=>
  intro i u;rcases m5.1 u with rfl | u
  ·exact⟨_,_,z⟩
  ·exact B i u
def AQ(F:WV)(σ:AS):Exit->Act->World->Prop
 | .normal,a,w=>St F σ a w
 |_,_,_=>False
def RB{α δ:Type}(F:WV)(ds:α->List (Nat×VH))(dx:δ->List (Nat×VH)):Step α δ->Exit->Act->World->Prop
 | .next y,.normal,a,w=>St F ⟨[],ds y⟩ a w
 | .done z,.ret,a,w=>St F ⟨[],dx z⟩ a w
 |_,_,_,_=>False
theorem Core.pin{F:WV}{d:List (Nat×VH)}{ρ:Nat->LV}{w:World}{A:Nat->Nat}(hc:Core F d ρ w)(hA:∀i b,(ρ i).v= .pointer (some ⟨b,0,none⟩)->A i=b):Core F (Oo A d) ρ w/\Un F.S0 ρ (Oo A d)=Un F.S0 ρ d:=by
 have G:Un F.S0 ρ (Oo A d)=Un F.S0 ρ d:=by
  funext k;refine propext ⟨fun h=>?_,fun h=>?_⟩
  ·rcases h with h |⟨i,C,u,B⟩
   ·exact .inl h
   ·obtain⟨z,D,_⟩:=Bc u;exact .inr ⟨i,z,D,B⟩
  ·rcases h with h |⟨i,C,u,B⟩
   ·exact .inl h
   ·obtain⟨H,D⟩:=Tt (A:=A) u;exact .inr ⟨i,H,D,B⟩
 refine⟨⟨hc.low,hc.size,hc.frame,hc.os,hc.tape,hc.output,fun i C h=>?_,fun i C b h=>?_,fun i j C H b I K=>?_,fun i C b h=>?_⟩,G⟩
 ·obtain⟨z,u,B⟩:=Bc h;rw[G];have:=hc.own i z u;rcases B with⟨T,l,P,rfl,rfl⟩| rfl
  ·obtain⟨⟨b,L,E,M,N⟩,_⟩:=this;exact⟨⟨b,L,E,M,N⟩,fun c hc=>by cases hc;rw[E,hA i b E]⟩
  ·exact this
 ·obtain⟨z,u,_⟩:=Bc h;exact hc.fresh i z b u
 ·obtain⟨z,u,_⟩:=Bc I;obtain⟨O,B,_⟩:=Bc K;exact hc.inj i j z O b u B
 ·obtain⟨z,u,_⟩:=Bc h;exact hc.apart i z b u
theorem Core.wm{F F':WV}{d:List (Nat×VH)}{ρ:Nat->LV}{w w':World}{l:Nat}(hc:Core F d ρ w)(hl:F.S0 l)(hS:F'.S0=F.S0)(hz:w'.heap.size=w.heap.size)(ho:∀k,k≠l->w'.heap[k]? =w.heap[k]?)
  (m9:F'.w0.heap.size<=w'.heap.size) (ZX:∀k,F.S0 k->k<F'.w0.heap.size) (cj:∀k,k<F'.w0.heap.size->¬F'.R k->w'.heap[k]? =F'.w0.heap[k]?) (hos:w'.os=F'.w0.os) (htp:w'.tape=F'.w0.tape) (B8:w'.output=F'.w0.output)
  (hR:∀i en b,aX d i=some en->qS (ρ i) b->F'.w0.heap.size<=b\/F'.R b):Core F' d ρ w'/\Ext (Un F.S0 ρ d) (Un F'.S0 ρ d) w w':=by
 have z:Ext (Un F.S0 ρ d) (Un F'.S0 ρ d) w w':=⟨by rw[hz];exact YO _,fun k _ A=>⟨ho k fun e=>A (.inl (e ▸ hl)),by rw[hS];exact A⟩⟩;have B:∀i en b,aX d i=some en->qS (ρ i) b->b≠l:=fun i en b h u e=>hc.apart i en b h u (e ▸ hl);exact⟨⟨by rw[hS];exact ZX,m9,cj,hos,htp,B8,fun i en h=>VH.VE (hc.own i en h) z (fun _ _=>rfl) (fun b u=>ho b (B i en b h u)),fun i en b h u=>⟨hR i en b h u,by rw[hz];exact(hc.fresh i en b h u).2⟩,hc.inj,fun i en b h u=>by rw[hS];exact hc.apart i en b h u⟩,z⟩
theorem Xi(ps:List (Tmp×Value))(t:Array Value):(ps.foldl (fun tmps (t,a)=>tmps.setIfInBounds t a) t).size=t.size:=by
 induction ps generalizing t with
 |nil=>rfl
 |cons x ps h=>simp only[R5];rw[h];simp
theorem Zv{ρ:Nat->LV}{S:Nat->Prop}{w:World}:∀(ps:List Tmp) (ss:List Slot) (us:List Value) (g:List (Nat×Slot)) (tm:Array Value),(∀t s,lk g t=some s->s.ok ρ S w (tm.getD t undef))->aW ρ S w ss us->ps.length=ss.length->(∀t∈ps,t<tm.size)->
  ∀t s,lk (FR ps ss g) t=some s->s.ok ρ S w (((ps.zip us).foldl (fun tmps (t,a)=>tmps.setIfInBounds t a) tm).getD t undef)
 | [],[],us,g,tm,C,z,_,_=>by simp only[aW] at z;subst z;exact C
 |p::ps,H::ss,us,g,tm,C,z,A,D=>by
  simp only[aW] at z;obtain⟨u,us,rfl,F,G⟩:=z;simp only[FR,List.zip_cons_cons,R5];refine Zv ps ss us _ _ (fun t s h=>?_) G (by simpa using A) (fun t h=>by simpa using D t (Y8 _ h));have E:=D p Y9;rw[mC] at h;rw[oe,aDi];split at h
  ·rename_i B;subst B;cases h;simp[E];exact F
  ·rename_i B;rw[WA B,<-oe];exact C t s h
 | [],_::_,_,_,_,_,_,A,_=>by simp at A
 |_::_,[],_,_,_,_,_,A,_=>by simp at A
theorem Rm{F0 F:WV}{σ:AS}{cs:List Code}{Q:Exit->Act->World->Prop}{gt:Tmp}{ps:Array Tmp}{assign body:Code}{α ι δ:Type}{gf:FuncId}{cap:List Slot}{step:ι->α->Option (Step α δ)}{its:List ι}{x0:α}{o:Ex α δ}(enc:ι->List Slot)
  {g:List (Nat×Slot)} {ds0:List (Nat×VH)} (ds:(Nat->Nat)->α->List (Nat×VH)) (dx:(Nat->Nat)->δ->List (Nat×VH)) (σ1:(Nat->Nat)->ι->α->AS) {L:List Nat}
  (hF:T7 F0 F) (hrd:F.rd=none) (hm:Z8 step its x0=some o) (h0:Sub F σ ⟨g,ds0⟩) (fo:∀A,Oo A ds0=ds A x0) (hg:lk g gt=some (.ZJ gf cap)) (hit:X8 F.P gf cap (its.map enc))
  (XK:∀args w,(callFunc gf args).run F.P w= .ok (.enter gf args) w) (hps:∀it,(enc it).length=ps.size) (hpN:ps.toList.all (fun t=>Nat.blt t F.N)=true) (hel:∀it,dU (enc it)=[])
  (hL:(g.flatMap fun q=>q.2.YF)=L) (fp:∀A y,w8 A (ds A y) L) (hbz:∀A z,w8 A (dx A z) L)
  (ye:∀A S w R l it y,W ⟨F.P,F.N,S,w,R,some l,[]⟩ [assign] ⟨FR ps.toList (enc it) g,ds A y⟩ (AQ ⟨F.P,F.N,S,w,R,some l,[]⟩ (σ1 A it y)))
  (aQ0:∀A S w R l it y r,step it y=some r->W ⟨F.P,F.N,S,w,R,some l,[]⟩ [body] (σ1 A it y) (RB ⟨F.P,F.N,S,w,R,some l,[]⟩ (ds A) (dx A) r))
  (hk:∀A y,o= .WB y->∀S w R df,T7 F0 ⟨F.P,F.N,S,w,R,none,df⟩->W ⟨F.P,F.N,S,w,R,none,df⟩ cs ⟨g,ds A y⟩ Q)
  (hx:∀A z,o= .ret z->∀S w R df,T7 F0 ⟨F.P,F.N,S,w,R,none,df⟩->XQ ⟨F.P,F.N,S,w,R,none,df⟩ ⟨g,dx A z⟩ Q .ret):
  W F (.rangeFunc (.tmp gt) ps assign body::cs) σ Q:=by
 intro a w XY;obtain⟨⟨ρ0,G,im⟩,hz,YR⟩:=h0 a w XY;have nh:F.fe=Fence.wide:=by show ({ Fence.wide with round:=F.rd }:Fence)=_;rw[hrd];rfl
 let A:Nat->Nat:=fun i=>l7 (ρ0 i).v
 obtain⟨G,bs⟩:=G.pin (A:=A) (fun i b h=>by show l7 (ρ0 i).v=b;rw[h];rfl);replace im:∀t s,lk g t=some s->s.ok ρ0 (Un F.S0 ρ0 (ds A x0)) w (a.tmps.getD t undef):=by intro t s M;rw[<-fo,bs];exact im t s M
 rw[fo] at G;clear bs;have ay:=im gt _ hg;simp only[Slot.ok] at ay;obtain⟨vs,VV,ZG⟩:=ay;obtain⟨D,hD⟩:∃D,D=w.heap.size:=⟨_,rfl⟩;refine wpIn_rangeFunc fun fn _=>?_;obtain⟨O,U⟩:∃O:LoopState->Option Code->Loop,O=fun st pe=>{ state:=st,pending:=pe,fn,tmps:=a.tmps,params:=ps,assign,body,defers:=D }:=⟨_,rfl⟩;obtain⟨W1,ae⟩:∃W1,(w.alloc (.deferred (some []))).alloc (.loop (O .ready none))=W1:=⟨_,rfl⟩;have I0:Below w.heap.size w W1:=by rw[<-ae];exact((Below.refl _ w).alloc (YO _) _).alloc (by simp) _
 have re:W1.heap.size=D+2:=by rw[<-ae,hD];simp
 have a0:W1.heap[D+1]? =some (.loop (O .ready none)):=by
  rw[<-ae,hD];have:=World.alloc_heap_new (w.alloc (.deferred (some []))) (.loop (O .ready none));rwa [World.size_alloc] at this
 have bw:W1.heap[D]? =some (.deferred (some [])):=by
  rw[<-ae,hD];exact(Below.heap_alloc _ _ _ (by simp)).trans (World.alloc_heap_new w _)
 let S1:Nat->Prop:=fun k=>F.S0 k\/k=D\/k=D+1
 let V:Nat->Prop:=mN ρ0 (ds A x0)
 let FL:WV:=⟨F.P,F.N,S1,W1,V,none,[]⟩
 let FX:WV:=⟨F.P,F.N,S1,W1,fun k=>V k\/k=D+1,none,[]⟩
 have aa:∀k,S1 k->k<W1.heap.size:=by
  rintro k (h | rfl | rfl)
  ·have:=G.low k h;have:=G.size;omega
  ·omega
  ·omega
 have tw:Ext (Un F.S0 ρ0 (ds A x0)) (Un S1 ρ0 (ds A x0)) w W1:=⟨I0.size,fun k hk I=>⟨I0.block k hk,by
  rintro ((h | rfl | rfl) | h)
  ·exact I (.inl h)
  ·omega
  ·omega
  ·exact I (.inr h)⟩⟩
 have a2:Core FL (ds A x0) ρ0 W1:=by
  refine⟨aa,YO _,fun _ _ _=>rfl,rfl,rfl,rfl,fun i B h=>VH.VE (G.own i B h) tw (fun _ _=>rfl) (fun b H=>I0.block b (G.fresh i B b h H).2),fun i B b h H=>⟨.inr ⟨i,B,h,H⟩,O3 (G.fresh i B b h H).2 I0.size⟩,G.inj,fun i B b h H=>?_⟩;rintro (h' | rfl | rfl)
  ·exact G.apart i B b h H h'
  ·have:=(G.fresh i B _ h H).2;omega
  ·have:=(G.fresh i B _ h H).2;omega
 have a4:∀{d:List (Nat×VH)} {ρ:Nat->LV} {W:World},Core FL d ρ W->W.heap[D+1]? =some (.loop (O .ready none))/\W.heap[D]? =some (.deferred (some [])):=by
  intro d ρ W u;have a5:∀k,k=D\/k=D+1->¬V k:=by
   rintro k hk ⟨i,B,E,C⟩;have:=(G.fresh i B k E C).2;omega
  exact⟨(u.frame (D+1) (by show D+1<W1.heap.size;omega) (a5 _ (.inr rfl))).trans a0,(u.frame D (by show D<W1.heap.size;omega) (a5 _ (.inl rfl))).trans bw⟩
 have E7:∀{d:List (Nat×VH)} {ρ:Nat->LV} {W:World} {FF:WV},Core FF d ρ W->w8 A d L->∀t s,lk g t=some s->mM ρ0 ρ s.YF:=by
  intro d ρ W FF u H t s M i hi;have a6:i∈L:=by rw[<-hL];exact aD6.2 ⟨_,Ls M,hi⟩
  obtain⟨T,l,E⟩:=H.spec i a6;obtain⟨T',l',C⟩:=(fp A x0).spec i a6;rw[(u.own i _ E).2 _ rfl,(G.own i _ C).2 _ rfl]
 have a7:∀{d:List (Nat×VH)} {ρ:Nat->LV} {W:World},Core FL d ρ W->Ext (Un S1 ρ0 (ds A x0)) (Un S1 ρ d) W1 W:=by
  intro d ρ W u;refine⟨u.size,fun k hk I=>⟨u.frame k hk (fun h=>I (.inr h)),?_⟩⟩;rintro (h |⟨i,B,E,C⟩)
  ·exact I (.inl h)
  ·rcases (u.fresh i B k E C).1 with h | h
   ·have:W1.heap.size<=k:=h;omega
   ·exact I (.inr h)
 have bx:∀{d:List (Nat×VH)} {ρ:Nat->LV} {W:World},Core FX d ρ W->Ext (Un S1 ρ0 (ds A x0)) (Un S1 ρ d) W1 W:=by
  intro d ρ W u;have S9:∀k,¬Un S1 ρ0 (ds A x0) k->¬(V k\/k=D+1):=by
   rintro k I (h | rfl)
   ·exact I (.inr h)
   ·exact I (.inl (.inr (.inr rfl)))
  refine⟨u.size,fun k hk I=>⟨u.frame k hk (S9 k I),?_⟩⟩;rintro (h |⟨i,B,E,C⟩)
  ·exact I (.inl h)
  ·rcases (u.fresh i B k E C).1 with h | h
   ·have:W1.heap.size<=k:=h;omega
   ·exact S9 k I h
 have a8:∀{d:List (Nat×VH)} {ρ:Nat->LV} {W W':World} {FF:WV},(FF=FL\/FF=FX)->Core FF d ρ W->W'.heap.size=W.heap.size->(∀k,k≠D+1->W'.heap[k]? =W.heap[k]?)->W'.os=W.os->W'.tape=W.tape->W'.output=W.output->W.heap[D]? =some (.deferred (some []))->
   T7 F0 ⟨F.P,F.N,S1,W',mN ρ d,none,{ target:= .collected D,args:= #[] }::F.df⟩/\Core ⟨F.P,F.N,S1,W',mN ρ d,none,{ target:= .collected D,args:= #[] }::F.df⟩ d ρ W'/\Ext (Un S1 ρ d) (Un S1 ρ d) W W':=by
  intro d ρ W W' FF hFF u hzz cc hos htp B8 hKD;have ab:FF.S0=S1:=by rcases hFF with rfl | rfl<;>rfl
  have ac:FF.w0=W1:=by rcases hFF with rfl | rfl<;>rfl
  have a9:∀k,FF.R k->V k\/k=D+1:=by rcases hFF with rfl | rfl;exact fun k h=> .inl h;exact fun k h=>h
  have az:=u.size;rw[ac] at az;have cj:∀k,k<W1.heap.size->¬V k->k≠D+1->W.heap[k]? =W1.heap[k]? :=fun k E C K=>by
   have:=u.frame k (by rw[ac];exact E) (fun h=>(a9 k h).elim C K);rwa [ac] at this
  have sj:∀k,F.S0 k\/k=D\/k=D+1->¬mN ρ d k:=by
   rintro k hk ⟨i,B,E,C⟩;have:=u.apart i B k E C;rw[ab] at this;exact this hk
  have ba:∀k,mN ρ d k->k<W1.heap.size->V k:=by
   rintro k ⟨i,B,E,C⟩ hk;rcases (u.fresh i B k E C).1 with h | h
   ·rw[ac] at h;omega
   ·rcases a9 k h with h | rfl
    ·exact h
    ·exact absurd ⟨i,B,E,C⟩ (sj _ (.inr (.inr rfl)))
  have bb:∀k,V k->F0.w0.heap.size<=k\/F0.R k:=by
   rintro k ⟨i,B,E,C⟩;rcases (G.fresh i B k E C).1 with h | h
   ·exact .inl (db hF.size h)
   ·exact hF.fresh k h
  have ah:W'.os=F.w0.os/\W'.tape=F.w0.tape/\W'.output=F.w0.output:=by
   have E:=u.os;have C:=u.tape;have K:=u.output;rw[ac] at E C K;exact⟨((hos.trans E).trans I0.os).trans G.os,((htp.trans C).trans I0.tape).trans G.tape,((B8.trans K).trans I0.output).trans G.output⟩
  have ai:=u.wm (F':=⟨F.P,F.N,S1,W',mN ρ d,none,{ target:= .collected D,args:= #[] }::F.df⟩) (l:=D+1) (by rw[ab];exact .inr (.inr rfl)) ab.symm hzz cc (YO _) (fun k h=>by rw[ab] at h;show k<W'.heap.size;have:=aa k h;omega)
   (fun _ _ _=>rfl) rfl rfl rfl (fun i B b h H=> .inr ⟨i,B,h,H⟩)
  rw[ab] at ai;refine⟨⟨hF.P,fun k h=> .inl (hF.S k h),by show F0.w0.heap.size<=W'.heap.size;have:=hF.size;have:=G.size;omega,hF.low,fun k hk hr=>?_,ah.1.trans hF.os,ah.2.1.trans hF.tape,ah.2.2.trans hF.output,fun k hk=>?_,fun x hx=>?_,?_⟩,ai.1,ai.2⟩
  ·have V4:=hF.size;have ee:=G.size;obtain⟨E,C⟩:=hF.frame k hk hr;have xt:¬V k:=fun h=>(bb k h).elim (fun h=>by omega) hr;refine⟨?_,fun h=>xt (ba k h (by omega))⟩;show W'.heap[k]? =_;rw[cc k (by omega),cj k (by omega) xt (by omega),I0.block k (by omega),G.frame k (by omega) C,E]
  ·by_cases WZ:k<W1.heap.size
   ·exact bb k (ba k hk WZ)
   ·have V4:=hF.size;have ee:=G.size;exact .inl (by omega)
  ·rcases m5.1 hx with rfl | hx
   ·have V4:=hF.size;have ee:=G.size;exact⟨D,rfl,.inr (.inl rfl),sj D (.inr (.inl rfl)),by omega,by show W'.heap[D]? =_;rw[cc D (by omega)];exact hKD⟩
   ·obtain⟨r,E,C,K,h4,h5⟩:=hF.df x hx;have WZ:=G.low r C;have ee:=G.size;refine⟨r,E,.inl C,sj r (.inl C),h4,?_⟩;show W'.heap[r]? =_;have xt:¬V r:=fun⟨i,B,h6,h7⟩=>G.apart i B r h6 h7 C;rw[cc r (by omega),cj r (by omega) xt (by omega),I0.block r (by omega),G.frame r WZ K,h5]
  ·refine List.pairwise_cons.2 ⟨fun x hx e=>?_,hF.nd⟩;obtain⟨r,E,C,_⟩:=hF.df x hx;rw[E] at e;have e':D=r:=by simpa using e
   have:=G.low r C;have:=G.size;omega
 let J:Nat->World->Prop:=fun k W=>∃y ρ,Z8 step (its.drop k) y=some o/\Core FL (ds A y) ρ W
 let Jx:World->Prop:=fun W=>∃z ρ,o= .ret z/\Core FX (dx A z) ρ W/\W.heap[D+1]? =some (.loop (O .done (some .ret)))/\W.heap[D]? =some (.deferred (some []))
 refine⟨D+1,[{ target:= .collected D,args:= #[] }],W1,{ target:= .fn (.func gf) vs.toArray,args:= #[.func (.yield (D+1)) #[] #[]] },W1,gf,(.func (.yield (D+1)) #[] #[]::vs).toArray,W1,?_,?_,fun _ _=>by rw[nh];trivial,?_,fun h=>(by rw[nh] at h;cases h),?_⟩
 ·rw[<-ae,U,hD];show (Instr.enterLoop _ _ _ _ _ F.rd).run _ _=_;rw[hrd];exact run_enterLoop_outer _ _ _ _ _
 ·have:a.eval (.tmp gt)= .func (.func gf) #[] vs.toArray:=VV;simp only[resolve,this];simp[go_sem]
 ·simp[invoke,go_sem,XK]
 rw[nh];refine CallsIn.mono (callsIn_wide.2 (hit (Un S1 ρ0 (ds A x0)) W1 vs ρ0 (D+1) J Jx ?_ (nB cap vs ZG tw (fun _ _=>rfl)) ⟨x0,ρ0,by simpa using hm,a2⟩ ?_ ?_ ?_ ?_)) ?_
 ·rintro k (h |⟨i,B,E,C⟩)
  ·exact aa k h
  ·exact(a2.fresh i B k E C).2
 ·rintro k W ⟨y,ρ,_,u⟩;exact⟨u.size,fun b H I=>u.frame b H (fun h=>I (.inr h))⟩
 ·rintro k W W' ⟨y,ρ,E,u⟩ R0;exact⟨y,ρ,E,(u.below R0).1⟩
 ·rintro W W' ⟨z,ρ,ad,u,I8,ng⟩ R0;exact⟨z,ρ,ad,(u.below R0).1,(R0.block _ (ze.1 I8).1).trans I8,(R0.block _ (ze.1 ng).1).trans ng⟩
 ·
  rintro k item W0 W us V6 ⟨y,ρ,nf,bu⟩ R0 bv;have u:=(bu.below R0).1
  have bz:Ext (fun j=>Un S1 ρ0 (ds A x0) j\/(W1.heap.size<=j/\j<W0.heap.size)) (Un S1 ρ (ds A y)) W W:=⟨YO _,fun k _ I=>⟨rfl,by
   rintro (h |⟨i,B,E,C⟩)
   ·exact I (.inl (.inl h))
   ·obtain⟨K,h4⟩:=bu.fresh i B k E C;rcases K with K | K
    ·exact I (.inr ⟨K,h4⟩)
    ·exact I (.inl (.inr K))⟩⟩
  obtain⟨it,bL,rfl⟩:∃it,its[k]? =some it/\enc it=item:=by
   rw[ka] at V6;cases hq:its[k]? with
   |none=>rw[hq] at V6;cases V6
   |some it=>rw[hq] at V6;exact⟨it,rfl,by simpa using V6⟩
  have V7:its.drop k=it::its.drop (k+1):=by
   obtain⟨WZ,he⟩:=aCb.1 bL;rw[aCy WZ,he]
  rw[V7] at nf;obtain⟨hl,aq⟩:=a4 u;have bA:=Gt bv;have hy:=run_yield (P:=F.P) (args:=us.toArray) hl (by rw[U];simp[bA,hps]);rw[U] at hy;refine⟨fn,_,assign,body,hy,roundIn_of_wpIn trivial ?_⟩;let F2:WV:=⟨F.P,F.N,S1,W,mN ρ (ds A y),some (D+1),[]⟩
  have bB:=u.size;have b6:W1.heap.size<=W.heap.size:=bB;have XN:Core F2 (ds A y) ρ W:=⟨fun k h=>by have:=aa k h;show k<W.heap.size;omega,YO _,fun _ _ _=>rfl,rfl,rfl,rfl,u.own,fun i B b h H=>⟨.inr ⟨i,B,h,H⟩,(u.fresh i B b h H).2⟩,u.inj,u.apart⟩;have YC:mM ρ0 ρ (dU (enc it)):=fun i hi=>by rw[hel it] at hi;simp at hi
  have sc:St F2 ⟨FR ps.toList (enc it) g,ds A y⟩ { tmps:=((ps.zip us.toArray).foldl (fun tmps (t,a)=>tmps.setIfInBounds t a) a.tmps),defers:=[] } W:=by
   refine⟨⟨ρ,XN,fun t s M=>?_⟩,?_,rfl⟩
   ·have bC:(ps.zip us.toArray).foldl (fun tmps (t,a)=>tmps.setIfInBounds t a) a.tmps=(ps.toList.zip us).foldl (fun tmps (t,a)=>tmps.setIfInBounds t a) a.tmps:=by
     rw[<-aEg];simp
    rw[bC];refine Zv ps.toList (enc it) us g a.tmps (fun t s M=>?_) (nB _ us bv bz YC) (by simpa using (hps it).symm) (fun t M=>?_) t s M
    ·exact Slot.VE s _ (Slot.VE s _ (im t s M) tw (fun _ _=>rfl)) (a7 u) (fun i hi=>E7 u (fp A y) t s M i hi)
    ·rw[hz];have:=j4.1 hpN t M;exact w7 this
   ·show ((ps.zip us.toArray).foldl (fun tmps (t,a)=>tmps.setIfInBounds t a) a.tmps).size=F.N;rw[<-aEg];rw[Xi];exact hz
  have bD:assign.wpIn F2.fe 0 F.P (Exit.then (run F2.fe F.P (AQ F2 (σ1 A it y)) []) (AQ F2 (σ1 A it y))) _ W:=ye A S1 W (mN ρ (ds A y)) (D+1) it y _ _ sc;refine wpIn_mono (show assign.wpIn (Fence.wide.inRound (D+1)) 0 F.P _ _ W from bD) ?_;have fin:∀{e:Exit} {a1:Act} {X:World},St F2 (σ1 A it y) a1 X->∃w2,(Instr.beginRound (D+1)).run F.P X= .ok () w2/\body.wpIn (Fence.wide.inRound (D+1)) 0 F.P (roundPost F.P (D+1) fun e W'=>(e= .returned (.bool true)/\J (k+1) W')\/(e= .returned (.bool false)/\Jx W')) a1 w2:=by
   intro _ a1 X il;obtain⟨⟨ρ1,ZI,V4⟩,b1,b2⟩:=il;have bc:∀k,S1 k->¬mN ρ (ds A y) k:=by rintro k hk ⟨i,B,E,C⟩;exact u.apart i B k E C hk
   have P4:X.heap[D+1]? =some (.loop (O .ready none)):=(ZI.frame (D+1) (by show D+1<W.heap.size;have:W1.heap.size<=W.heap.size:=u.size;omega) (bc _ (.inr (.inr rfl)))).trans hl;have bE:X.heap[D]? =some (.deferred (some [])):=(ZI.frame D (by show D<W.heap.size;have:W1.heap.size<=W.heap.size:=u.size;omega) (bc _ (.inr (.inl rfl)))).trans aq;have bF:=(ze.1 P4).1;have bd:=run_beginRound (P:=F.P) P4 (by rw[U]);obtain⟨w2,af⟩:∃w2,X.putObj (D+1) (.loop { O .ready none with state:= .busy })=w2:=⟨_,rfl⟩;rw[af] at bd;have C5:w2.heap.size=X.heap.size:=by rw[<-af];simp
   have aj:∀k,k≠D+1->w2.heap[k]? =X.heap[k]? :=fun k h=>by rw[<-af];exact World.putObj_heap_other h
   have I8:w2.heap[D+1]? =some (.loop { O .ready none with state:= .busy }):=by rw[<-af];exact World.putObj_heap_same bF
   let F3:WV:=⟨F.P,F.N,S1,w2,mN ρ1 (σ1 A it y).d,some (D+1),[]⟩
   have b7:W.heap.size<=X.heap.size:=ZI.size;have b8:W1.heap.size<=W.heap.size:=u.size;obtain⟨j2,b3⟩:=ZI.wm (F':=F3) (l:=D+1) (.inr (.inr rfl)) rfl C5 aj (YO _) (fun k h=>by have:=aa k h;show k<w2.heap.size;omega) (fun _ _ _=>rfl) rfl rfl rfl (fun i B b h H=> .inr ⟨i,B,h,H⟩);refine⟨w2,bd,?_⟩;have be:∀{d:List (Nat×VH)} {ρ3:Nat->LV} {w3 w4:World} {o4:Obj},Core F3 d ρ3 w3->w4=w3.putObj (D+1) o4->(o4= .loop (O .ready none)->Core FL d ρ3 w4)/\Core FX d ρ3 w4/\w3.heap[D+1]? =some (.loop { O .ready none with state:= .busy })/\w4.heap[D+1]? =some o4/\w4.heap[D]? =some (.deferred (some [])):=by
    intro d ρ3 w3 w4 o4 ph hw4;have bf:∀k,S1 k->¬mN ρ1 (σ1 A it y).d k:=by rintro k hk ⟨i,B,E,C⟩;exact ZI.apart i B k E C hk
    have b9:w2.heap.size<=w3.heap.size:=ph.size;have bg:w3.heap[D+1]? =some (.loop { O .ready none with state:= .busy }):=(ph.frame (D+1) (by show D+1<w2.heap.size;omega) (bf _ (.inr (.inr rfl)))).trans I8;have bG:w3.heap[D]? =some (.deferred (some [])):=(ph.frame D (by show D<w2.heap.size;omega) (bf _ (.inr (.inl rfl)))).trans ((aj D (by omega)).trans bE);have qv:w4.heap.size=w3.heap.size:=by rw[hw4];simp
    have xo:∀k,k≠D+1->w4.heap[k]? =w3.heap[k]? :=fun k h=>by rw[hw4];exact World.putObj_heap_other h
    have bi:w4.heap[D+1]? =some o4:=by rw[hw4];exact World.putObj_heap_same (ze.1 bg).1
    have bj:∀k,k<W1.heap.size->mN ρ1 (σ1 A it y).d k->V k:=by
     rintro k hk ⟨i,B,E,C⟩;rcases (ZI.fresh i B k E C).1 with h |⟨i',b4,K,h4⟩
     ·have:W.heap.size<=k:=h;omega
     ·rcases (u.fresh i' b4 k K h4).1 with h | h
      ·have:W1.heap.size<=k:=h;omega
      ·exact h
    have bl:∀k,k<W1.heap.size->¬V k->k≠D+1->w4.heap[k]? =W1.heap[k]? :=by
     intro k hk pc YS;rw[xo k YS,ph.frame k (by show k<w2.heap.size;omega) (fun h=>pc (bj k hk h))];show w2.heap[k]? =_;rw[aj k YS,ZI.frame k (by show k<W.heap.size;omega) (fun h=>?_)]
     ·exact u.frame k hk pc
     ·obtain⟨i,B,E,C⟩:=h;rcases (u.fresh i B k E C).1 with h | h
      ·have:W1.heap.size<=k:=h;omega
      ·exact pc h
    have am:w4.os=w3.os/\w4.tape=w3.tape/\w4.output=w3.output:=by rw[hw4];exact⟨rfl,rfl,rfl⟩
    have an:w2.os=X.os/\w2.tape=X.tape/\w2.output=X.output:=by rw[<-af];exact⟨rfl,rfl,rfl⟩
    have bn:w4.os=W1.os:=am.1.trans (ph.os.trans (an.1.trans (ZI.os.trans u.os)));have bo:w4.tape=W1.tape:=am.2.1.trans (ph.tape.trans (an.2.1.trans (ZI.tape.trans u.tape)));have bp:w4.output=W1.output:=am.2.2.trans (ph.output.trans (an.2.2.trans (ZI.output.trans u.output)));have bq:∀i B b,aX d i=some B->qS (ρ3 i) b->W1.heap.size<=b\/V b:=by
     intro i B b h H;by_cases WZ:b<W1.heap.size
     ·rcases (ph.fresh i B b h H).1 with h' | h'
      ·have:w2.heap.size<=b:=h';omega
      ·exact .inr (bj b WZ h')
     ·exact .inl (by omega)
    have ZX:∀k,S1 k->k<W1.heap.size:=aa;refine⟨fun bK=>?_,?_,bg,bi,by rw[xo D (by omega)];exact bG⟩
    ·exact(ph.wm (F':=FL) (l:=D+1) (.inr (.inr rfl)) rfl qv xo (by show W1.heap.size<=w4.heap.size;omega) ZX (fun k hk pc=>by
      by_cases br:k=D+1
      ·subst br;exact(bi.trans (by rw[bK])).trans a0.symm
      ·exact bl k hk pc br) bn bo bp bq).1
    ·exact(ph.wm (F':=FX) (l:=D+1) (.inr (.inr rfl)) rfl qv xo (by show W1.heap.size<=w4.heap.size;omega) ZX (fun k hk pc=>bl k hk (fun h=>pc (.inl h)) (fun h=>pc (.inr h))) bn bo bp (fun i B b h H=>(bq i B b h H).imp (fun h=>h) .inl)).1
   have bH:St F3 (σ1 A it y) a1 w2:=⟨⟨ρ1,j2,fun t s M=>Slot.VE s _ (V4 t s M) b3 (fun _ _=>rfl)⟩,b1,b2⟩;cases hsr:step it y with
   |none=>simp only[Z8,hsr] at nf;cases nf
   |some r=>
    have bI:body.wpIn F3.fe 0 F.P (Exit.then (run F3.fe F.P (RB F3 (ds A) (dx A) r) []) (RB F3 (ds A) (dx A) r)) a1 w2:=aQ0 A S1 w2 _ (D+1) it y r hsr _ _ bH;refine wpIn_mono (show body.wpIn (Fence.wide.inRound (D+1)) 0 F.P _ a1 w2 from bI) ?_;intro e a3 w3 hq;simp only[Z8,hsr] at nf;cases r with
    |next y'=>
     cases e<;>simp only[RB,Exit.then,run] at hq;obtain⟨⟨ρ3,au,_⟩,_⟩:=hq;obtain⟨E,C,K,h4,h5⟩:=be (o4:= .loop (O .ready none)) au rfl;have F5:=run_endRound (P:=F.P) none K;refine⟨_,_,F5,.inl ⟨rfl,y',ρ3,?_,?_⟩⟩
     ·exact nf
     ·rw[U] at E ⊢;exact E rfl
    |done z=>
     have ad:o= .ret z:=by simpa using nf.symm
     cases e<;>simp only[RB,Exit.then,run] at hq;obtain⟨⟨ρ3,au,_⟩,_⟩:=hq;obtain⟨_,C,K,h4,h5⟩:=be (o4:= .loop (O .done (some .ret))) au rfl;have F5:=run_endRound (P:=F.P) (some .ret) K;refine⟨_,_,F5,.inr ⟨rfl,z,ρ3,ad,?_,?_,?_⟩⟩
     ·rw[U] at C ⊢;exact C
     ·rw[U] at h4 ⊢;exact h4
     ·rw[U] at h5 ⊢;exact h5
  intro e a1 X hq;cases e<;>simp only[AQ,Exit.then,run] at hq ⊢<;>first | exact fin (e:= .normal) hq | exact hq
 ·
  rintro e W2 ⟨⟨v,rfl⟩,⟨y,ρ,E,u⟩|⟨z,ρ,ad,u,I8,b5⟩⟩
  ·obtain⟨hl,aq⟩:=a4 u;have bJ:o= .WB y:=by
    have C:its.drop (List.map enc its).length=[]:=by simp
    rw[C] at E;simpa[Z8] using E.symm
   refine⟨none,_,(by have:=run_endLoop (P:=F.P) hl (by rw[U];simp);rw[U] at this;exact this),?_⟩;obtain⟨W3,np⟩:∃W3,W2.putObj (D+1) (.loop { O .ready none with state:= .exhausted })=W3:=⟨_,rfl⟩;have J9:∀k,k≠D+1->W3.heap[k]? =W2.heap[k]? :=fun k h=>by rw[<-np];exact World.putObj_heap_other h
   obtain⟨av,aw,ax⟩:=a8 (W':=W3) (.inl rfl) u (by rw[<-np];simp) J9 (by rw[<-np];rfl) (by rw[<-np];rfl) (by rw[<-np];rfl) aq;have iy:=hk A y bJ S1 W3 (mN ρ (ds A y)) _ av { a with defers:=[{ target:= .collected D,args:= #[] }]++a.defers } W3 ⟨⟨ρ,aw,fun t s M=>?_⟩,hz,by show _++a.defers=_;rw[YR];rfl⟩
   ·have ap:W2.putObj (D+1) (.loop { state:= .exhausted,pending:=none,fn,tmps:=a.tmps,params:=ps,assign,body,defers:=D })=W3:=by rw[<-np,U]
    rw[ap];simp only[Exit.then];exact iy
   ·exact Slot.VE s _ (Slot.VE s _ (Slot.VE s _ (im t s M) tw (fun _ _=>rfl)) (a7 u) (fun i hi=>E7 u (fp A y) t s M i hi)) ax (fun _ _=>rfl)
  ·refine⟨some .ret,_,(by have:=run_endLoop (P:=F.P) I8 (by rw[U];simp);rw[U] at this;exact this),?_⟩;obtain⟨W3,np⟩:∃W3,W2.putObj (D+1) (.loop { O .done (some .ret) with state:= .exhausted })=W3:=⟨_,rfl⟩;have J9:∀k,k≠D+1->W3.heap[k]? =W2.heap[k]? :=fun k h=>by rw[<-np];exact World.putObj_heap_other h
   obtain⟨av,aw,ax⟩:=a8 (W':=W3) (.inr rfl) u (by rw[<-np];simp) J9 (by rw[<-np];rfl) (by rw[<-np];rfl) (by rw[<-np];rfl) b5;have iy:=hx A z ad S1 W3 (mN ρ (dx A z)) _ av { a with defers:=[{ target:= .collected D,args:= #[] }]++a.defers } W3 ⟨⟨ρ,aw,fun t s M=>?_⟩,hz,by show _++a.defers=_;rw[YR];rfl⟩
   ·have ap:W2.putObj (D+1) (.loop { state:= .exhausted,pending:=some .ret,fn,tmps:=a.tmps,params:=ps,assign,body,defers:=D })=W3:=by rw[<-np,U]
    show (Code.ret).wpIn _ _ _ _ _ _;rw[ap];exact wpIn_ret iy
   ·exact Slot.VE s _ (Slot.VE s _ (Slot.VE s _ (im t s M) tw (fun _ _=>rfl)) (bx u) (fun i hi=>E7 u (hbz A z) t s M i hi)) ax (fun _ _=>rfl)
def rg{ι α δ γ:Type}(step:ι->α->Option (Step α δ))(its:List ι)(x:α)(k:α->Option γ)(kx:δ->Option γ):Option γ:=match Z8 step its x with
 |none=>none
 |some (.WB y)=>k y
 |some (.ret z)=>kx z
theorem Rn{ι α δ γ:Type}{step:ι->α->Option (Step α δ)}{its:List ι}{x:α}{k:α->Option γ}{kx:δ->Option γ}{r:γ}(h:rg step its x k kx=some r):
  ∃o,Z8 step its x=some o/\(∀y,o= .WB y->k y=some r)/\(∀z,o= .ret z->kx z=some r):=by
 unfold rg at h;cases hr:Z8 step its x with
 |none=>rw[hr] at h;cases h
 |some o=>
  rw[hr] at h;refine⟨o,rfl,fun y e=>?_,fun z e=>?_⟩
  ·subst e;exact h
  ·subst e;exact h
theorem OY{F:WV}{σ σ1:AS}(h:Sub F σ σ1):W F [] σ (AQ F σ1):=fun a w u=>h a w u
theorem Ro{α δ:Type}{F:WV}{σ:AS}{ds:α->List (Nat×VH)}{dx:δ->List (Nat×VH)}{y:α}(h:Sub F σ ⟨[],ds y⟩):W F [] σ (RB F ds dx (.next y)):=fun a w u=>h a w u
theorem FT{α δ:Type}{F:WV}{σ:AS}{ds:α->List (Nat×VH)}{dx:δ->List (Nat×VH)}{z:δ}(h:Sub F σ ⟨[],dx z⟩):XQ F σ (RB F ds dx (.done z)) .ret:=fun a w u=>h a w u
def small{α:Type}(xs:List α):Option Unit:=if (xs.length:Int)<=4294967296 then some () else none
theorem Fx{α:Type}{xs:List α}{u:Unit}(h:small xs=some u):(xs.length:Int)<=4294967296:=by
 unfold small at h;split at h
 ·assumption
 ·cases h
def nx(n:Int):Option Unit:=if 1<=n/\n<=4294967296 then some () else none
theorem Ed{n:Int}{u:Unit}(h:nx n=some u):1<=n/\n<=4294967296:=by
 unfold nx at h;split at h
 ·assumption
 ·cases h
end Go.Sw
namespace Go.Sw
open Go Go.RowKit
def Wr.ZK(u:Value)(h:u.oneCell'=true):Wr Unit where
 n:=1
 agg:=false
 ok _ _ _ cs:=cs=[u]
 len h:=by rw[h];rfl
 one _:=rfl
 cell hc c hm:=by rw[hc] at hm;simp at hm;subst hm;exact h
 mono h _:=h
instance (u:Value) (h:u.oneCell'=true):YI (Wr.ZK u h):=⟨fun h=>h⟩
theorem Hb{u:Value}{hu:u.oneCell'=true}{S w v}:(Wr.ZK u hu).val () S w v↔v=u:=
 ⟨fun⟨_,z,A⟩=>by have:_=[u]:=z;subst this;exact A,fun h=>⟨_,rfl,h⟩⟩
def Wr.cp{α:Type}(b off:Nat)(e:Wr α):Wr α where
 n:=1
 agg:=false
 ok x S w cs:=cs=[.pointer (some ⟨b,off,none⟩)]/\∃u,b<w.heap.size/\¬S b/\VQ w b off u/\e.ok x S w u
 len h:=by rw[h.1];rfl
 one _:=rfl
 cell hc c hm:=by rw[hc.1] at hm;simp at hm;subst hm;rfl
 mono h k:=by
  obtain⟨B,u,z,A,C,D⟩:=h;exact⟨B,u,O3 z k.size,(k.F4 b z A).2,C.mono z A k,e.mono D k⟩
theorem Me{α:Type}{b off:Nat}{e:Wr α}{x:α}{S w v}:(Wr.cp b off e).val x S w v↔v= .pointer (some ⟨b,off,none⟩)/\∃ds,b<w.heap.size/\¬S b/\VQ w b off ds/\e.ok x S w ds:=
 ⟨fun⟨_,u,z⟩=>by obtain⟨rfl,A⟩:=u;exact⟨z,A⟩,fun h=>⟨_,⟨rfl,h.2⟩,h.1⟩⟩
section
variable {F:WV}{σ:AS}{s:Slot}{d:Option Tmp}{ty:TypeId}{p:String}{af:Array Edge}{gd:Option (Nat×Bool)}{x y z:Operand}
theorem eC{u:Value}(h:u.oneCell'=true):JO F ⟨d,.assign (.const u),ty,p,af,gd⟩ σ (.v (Wr.ZK u h) ()) []:=by
 intro ρ S a w K;exact VJ.value (w':=w) (v:=u) (by simp[execOp,Act.eval]) (XJ.same (by simp only[Slot.ok];exact Hb.2 rfl))
theorem mJ{α:Type}{b off:Nat}{e:Wr α}{v:α}{U:TypeId}(hx:dD σ.g x=some (.v (Wr.cp b off e) v))(hA:∀w,(isAgg U).run F.P w= .ok e.agg w)(hS:∀w,(sizeOf U).run F.P w= .ok e.n w):
  JO F ⟨d,.load U x,ty,p,af,gd⟩ σ (.v e v) []:=by
 intro ρ S a w K;have h:=K.slot x (by simp[Op.operands]) _ hx;simp only[Slot.ok] at h;obtain⟨A,u,C,D,B,z⟩:=Me.1 h;refine VJ.value (w':=w) (v:=e.pk u) ?_ (XJ.same (by simp only[Slot.ok];exact⟨u,z,rfl⟩));have:=Fu (P:=F.P) B z hA hS;simp[execOp,A,Instr.loadAt,Instr.sureAddr,this]
end
def SW(S:Nat->Prop)(B:Nat)(W:World)(j:Nat):Prop:=S j\/(B<=j/\j<W.heap.size)
abbrev FW(P:Program)(N:Nat)(S:Nat->Prop)(B:Nat)(W:World):WV:=⟨P,N,SW S B W,W,fun _=>False,none,[]⟩
structure oh (P:Program) (S:Nat->Prop) (w:World) (ρ:Nat->LV) (l:Nat) (J:Nat->World->Prop) (Jx:World->Prop) (items:List (List Slot)):Prop where
 low:∀k,S k->k<w.heap.size
 F4:∀k W,J k W->w.heap.size<=W.heap.size/\∀b,b<w.heap.size->¬S b->W.heap[b]? =w.heap[b]?
 below:∀k W W',J k W->Below W.heap.size W W'->J k W'
 aJe:∀W W',Jx W->Below W.heap.size W W'->Jx W'
 aGd:∀k item W0 W us,items[k]? =some item->J k W0->Below W0.heap.size W0 W->aW ρ (SW S w.heap.size W0) W item us->∃fn tmps assign body,(Instr.yield l us.toArray).run P W= .ok (.round l fn tmps assign body) W/\
   RoundIn Fence.wide 0 P l fn tmps assign body W fun e W'=>(e= .returned (.bool true)/\J (k+1) W')\/(e= .returned (.bool false)/\Jx W')
def n7(ρ:Nat->LV)(S:Nat->Prop)(w:World)(s:Slot):Prop:=s.YF=[]/\∀S1 W1 S2 W2 u,s.ok ρ S1 W1 u->Ext S S2 w W2->s.ok ρ S2 W2 u
theorem n7.flat{α:Type}{e:Wr α}[YI e]{x:α}{ρ S w}:n7 ρ S w (.v e x):=⟨rfl,fun _ _ _ _ u h _=>by
 simp only[Slot.ok] at h ⊢;obtain⟨z,A,B⟩:=h
 exact⟨z,YI.flat A,B⟩⟩
theorem n7.cp{α:Type}{e:Wr α}{x:α}{b off:Nat}{ρ S w}(h:(Slot.v (Wr.cp b off e) x).ok ρ S w (.pointer (some ⟨b,off,none⟩))):n7 ρ S w (.v (Wr.cp b off e) x):=⟨rfl,fun _ _ _ _ u z k=>by
 simp only[Slot.ok] at h z ⊢;obtain⟨rfl,_⟩:=Me.1 z
 exact gO h k⟩
inductive r6 (ρ:Nat->LV) (S:Nat->Prop) (w:World):List (Nat×Slot)->Prop
 |nil:r6 ρ S w []
 |cons {t:Nat} {s:Slot} {g:List (Nat×Slot)}:n7 ρ S w s->r6 ρ S w g->r6 ρ S w ((t,s)::g)
theorem r6.spec{ρ S w}{g:List (Nat×Slot)}(h:r6 ρ S w g):∀t s,lk g t=some s->n7 ρ S w s:=by
 induction h with
 |nil=>intro t s h;simp[lk] at h
 |cons u _ z=>
  intro t s h;rw[mC] at h;split at h
  ·cases h;exact u
  ·exact z t s h
inductive di (g:List (Nat×Slot)):List (Nat×Slot)->Prop
 |nil:di g []
 |cons {t:Nat} {s:Slot} {g':List (Nat×Slot)}:lk g t=some s->di g g'->di g ((t,s)::g')
theorem di.spec{g g':List (Nat×Slot)}(h:di g g'):∀t s,lk g' t=some s->lk g t=some s:=by
 induction h with
 |nil=>intro t s h;simp[lk] at h
 |cons z _ A=>
  intro t s h;rw[mC] at h;split at h
  ·rename_i u;subst u;cases h;exact z
  ·exact A t s h
theorem Pq{F:WV}{σ:AS}{g':List (Nat×Slot)}(h:di σ.g g'):Sub F σ ⟨g',σ.d⟩:=fun a w ⟨⟨ρ,u,z⟩,A,B⟩=>⟨⟨ρ,u,fun t s C=>z t s (h.spec t s C)⟩,A,B⟩
theorem kF{F:WV}{σ:AS}{g':List (Nat×Slot)}(hd:σ.d=[])(h:di σ.g g'):Sub F σ ⟨g',[]⟩:=by rw[<-hd];exact Pq h
section
variable {P:Program}{N:Nat}{S:Nat->Prop}{w:World}{ρ:Nat->LV}{l:Nat}{J:Nat->World->Prop}{Jx:World->Prop}{items:List (List Slot)}
theorem oh.ext(I:oh P S w ρ l J Jx items){k:Nat}{W:World}(h:J k W):Ext S (SW S w.heap.size W) w W:=by
 obtain⟨A,B⟩:=I.F4 k W h;exact⟨A,fun b z u=>⟨B b z u,by rintro (h | h);exact u h;omega⟩⟩
theorem Core.none{F:WV}{ρ:Nat->LV}(hl:∀k,F.S0 k->k<F.w0.heap.size):Core F [] ρ F.w0:=
 ⟨hl,YO _,fun _ _ _=>rfl,rfl,rfl,rfl,fun i u h=>by simp[aX] at h,fun i u b h=>by simp[aX] at h,fun i j u z b h=>by simp[aX] at h,fun i u b h=>by simp[aX] at h⟩
theorem Un.none{S:Nat->Prop}{ρ:Nat->LV}:Un S ρ []=S:=by
 funext k;refine propext ⟨fun h=>?_,.inl⟩;rcases h with h |⟨i,u,h,_⟩
 ·exact h
 ·simp[aX] at h
theorem Core.W9{F:WV}(hR:∀k,¬F.R k){d:List (Nat×VH)}{ρ:Nat->LV}{W:World}(hc:Core F d ρ W):Below F.w0.heap.size F.w0 W:=⟨hc.os,hc.tape,hc.output,hc.size,fun k h=>hc.frame k h (hR k)⟩
theorem oh.start(I:oh P S w ρ l J Jx items){k:Nat}{W:World}(hJ:J k W){g:List (Nat×Slot)}(hg:r6 ρ S w g){ρ1:Nat->LV}{S1:Nat->Prop}{W1:World}{a:Act}(hs:∀t s,lk g t=some s->s.ok ρ1 S1 W1 (a.tmps.getD t undef))(hz:a.tmps.size=N)(hd:a.defers=[]):
  St (FW P N S w.heap.size W) ⟨g,[]⟩ a W:=by
 refine⟨⟨ρ,Core.none (F:=FW P N S w.heap.size W) (fun k h=>?_),fun t s u=>?_⟩,hz,hd⟩
 ·show k<W.heap.size;rcases h with h | h
  ·have:=I.low k h;have:=(I.F4 _ W hJ).1;omega
  ·exact h.2
 ·obtain⟨A,B⟩:=hg.spec t s u;rw[Un.none];refine B S1 W1 _ W _ (Slot.VE s _ (hs t s u) (Ext.refl _ _) (fun i z=>?_)) (I.ext hJ);rw[A] at z;simp at z
def IQ(N:Nat)(J:Nat->World->Prop)(m:Nat)(gs:Nat->List (Nat×Slot))(Q:Exit->Act->World->Prop)(k:Nat):Exit->Act->World->Prop
 | .normal,a,h=>k<m/\J (k+1) h/\∃F',F'.N=N/\F'.df=[]/\St F' ⟨gs (k+1),[]⟩ a h
 |e,a,h=>Q e a h
theorem Rp{c:Code}{cs:List Code}{Q:Exit->Act->World->Prop}(I:oh P S w ρ l J Jx items){W0:World}{σ:AS}(gs:Nat->List (Nat×Slot))(hg:∀k,r6 ρ S w (gs k))(h0:Sub (FW P N S w.heap.size W0) σ ⟨gs 0,[]⟩)(vb:J 0 W0)
  (h:∀k V,J k V->k<=items.length->Sw.W (FW P N S w.heap.size V) [c] ⟨gs k,[]⟩ (IQ N J items.length gs Q k)):Sw.W (FW P N S w.heap.size W0) (.loop c::cs) σ Q:=by
 intro a wc U;obtain⟨⟨ρ1,ZI,V4⟩,re,aa⟩:=h0 a wc U;have E:J 0 wc:=I.below 0 W0 wc vb (ZI.W9 (fun _ h=>h));have R:=I.start (N:=N) E (hg 0) V4 re aa;let u:Act->World->Nat->Prop:=fun a V m=>∃k,k+m=items.length/\J k V/\St (FW P N S w.heap.size V) ⟨gs k,[]⟩ a V
 have F:∀a V,(∃m,u a V m)->∃m,u a V m/\∀k,u a V k->m<=k:=by
  rintro a V ⟨m,hm⟩
  induction m using Nat.strongRecOn with
  |_ m ih=>
   by_cases G:∃k,k<m/\u a V k
   ·obtain⟨k,M,D⟩:=G;exact ih k M D
   ·exact⟨m,hm,fun k A=>Nat.le_of_not_lt fun X=>G ⟨k,X,A⟩⟩
 classical
 let μ:Act->World->Nat:=fun a V=>if z:∃m,u a V m then Classical.choose (F a V z) else 0
 have H:∀a V (z:∃m,u a V m),u a V (μ a V)/\∀k,u a V k->μ a V<=k:=by
  intro a V z;have:=aD2 (F a V z);simp only[μ,dif_pos z];exact this
 refine wpIn_loop (Q:=Exit.then (run Fence.wide P Q cs) Q) (fun a V=>∃m,u a V m) μ ⟨items.length,0,by simp,E,R⟩ fun a V z=>?_;obtain⟨⟨k,M,D,h3⟩,C7⟩:=H a V z;have A:=h k V D (by omega) a V h3;refine wpIn_mono (show c.wpIn Fence.wide 0 P _ a V from A) ?_;intro e K L C;cases e<;>simp only[Exit.then,run,IQ] at C ⊢<;>try exact C
 obtain⟨q1,O,F',q3,q4,⟨ρ2,XN,ee⟩,q5,q6⟩:=C;have T:=I.start (N:=N) O (hg (k+1)) ee (by rw[q5,q3]) (by rw[q6,q4]);have B:u K L (items.length - (k+1)):=⟨k+1,by omega,O,T⟩;refine⟨⟨_,B⟩,?_⟩;have:=(H K L ⟨_,B⟩).2 _ B;omega
theorem Mf{cs:List Code}{Q:Exit->Act->World->Prop}(I:oh P S w ρ l J Jx items){V:World}{k id d d':Nat}{item:List Slot}{pre:List Oper}{yt:Tmp}{xs:List Operand}{ts:Array TypeId}{ty ty':TypeId}{p p':String}{af af':Array Edge}{T:TypeId}
  {σ σ1:AS} {g2:List (Nat×Slot)} (hJ:J k V) (V6:items[k]? =some item) (WR:Sw.J (FW P N S w.heap.size V) (pre++[(⟨some d,.call ⟨.value (.tmp yt),xs.toArray,ts⟩,ty,p,af,none⟩:Oper),⟨some d',.unOp .not T (.tmp d),ty',p',af',none⟩]).toArray pre σ σ1)
  (hy:lk σ1.g yt=some (.v (Wr.ZK (.func (.yield l) #[] #[]) rfl) ())) (ha:N5 σ1 false xs item) (hil:dU item=[]) (hd1:σ1.d=[]) (hd:Nat.blt d N=true) (hd':Nat.blt d' N=true) (E7:r6 ρ S w g2) (hg2:di σ1.g g2)
  (ht:∀V',J (k+1) V'->Sw.W (FW P N S w.heap.size V') cs ⟨(d',.v Wr.bool false)::(d,.v Wr.bool true)::g2,[]⟩ Q)
  (hf:∀V',Jx V'->Sw.W ⟨P,N,fun _=>False,V',fun _=>False,none,[]⟩ cs ⟨[(d',.v Wr.bool true)],[]⟩ Q):
  Sw.W (FW P N S w.heap.size V) (.region id (pre++[(⟨some d,.call ⟨.value (.tmp yt),xs.toArray,ts⟩,ty,p,af,none⟩:Oper),⟨some d',.unOp .not T (.tmp d),ty',p',af',none⟩]).toArray false::cs) σ Q:=by
 intro a wc XY;refine wpIn_region_lit ?_;refine WR _ _ a wc XY fun u w1 il=>?_;obtain⟨⟨ρ1,ZI,L⟩,U,aa⟩:=il;have R0:Below V.heap.size V w1:=ZI.W9 (fun _ h=>h);have H:=L yt _ hy;simp only[Slot.ok] at H;have H:=Hb.1 H;have K:=cI ZI L (Op.call ⟨.value (.tmp yt),xs.toArray,ts⟩).operands;have X:=ha.spec (ys:=(Op.call ⟨.value (.tmp yt),xs.toArray,ts⟩).operands) (fun x R=>by simp[Op.operands,Call.operands,R]) K;rw[hd1,Un.none] at X;have ad:aW ρ (SW S w.heap.size V) w1 item (xs.map u.eval):=nB _ _ X (by simp only[O2,ZW];exact Ext.refl _ _) (fun i C=>by rw[hil] at C;simp at C);obtain⟨fn,ab,ac,body,h1,G⟩:=I.aGd k item V w1 _ V6 hJ R0 ad;have H5:(execOp u.eval ⟨some d,.call ⟨.value (.tmp yt),xs.toArray,ts⟩,ty,p,af,none⟩).run P w1= .ok (.round l fn ab ac body) w1:=by
  have e1:u.eval (.tmp yt)= .func (.yield l) #[] #[]:=H;have e2:(xs.toArray.map u.eval)=(xs.map u.eval).toArray:=by simp
  simp only[execOp,resolve,e1];simp[go_sem,e2,h1]
 refine Ar (F:=FW P N S w.heap.size V) (K:=fun v w'=>(v= .bool true/\J (k+1) w')\/(v= .bool false/\Jx w')) (zN (g:=σ1.g) (GK.none rfl) (fun t x _ R=>L t _ R)) (.inr (.inr (.inr ⟨l,fn,ab,ac,body,w1,H5,G.mono ?_⟩))) ?_
 ·rintro e w' (⟨rfl,A⟩|⟨rfl,A⟩)
  ·exact⟨_,rfl,.inl ⟨rfl,A⟩⟩
  ·exact⟨_,rfl,.inr ⟨rfl,A⟩⟩
 have WZ:d<u.tmps.size:=by rw[U];exact w7 hd
 rintro v w' (⟨rfl,A⟩|⟨rfl,A⟩)
 ·have M:St (FW P N S w.heap.size w') ⟨(d,.v Wr.bool true)::g2,[]⟩ (u.put (some d) (.bool true)) w':=by
   refine⟨⟨ρ,Core.none (F:=FW P N S w.heap.size w') (fun q h=>?_),fun t s z=>?_⟩,by rw[kW,U],aa⟩
   ·show q<w'.heap.size;rcases h with h | h
    ·have:=I.low q h;have:=(I.F4 _ w' A).1;omega
    ·exact h.2
   ·rw[mC] at z;rw[kX u d _ t WZ];split at z
    ·rename_i B;cases z;rw[WJ B];exact pE true _ _ _
    ·rename_i B;rw[WA B,Un.none];obtain⟨k1,k2⟩:=E7.spec t s z;refine k2 _ w1 _ w' _ (Slot.VE s _ (L t s (hg2.spec t s z)) (Ext.refl _ _) (fun i C=>?_)) (I.ext A);rw[k1] at C;simp at C
  have O:Sw.J (FW P N S w.heap.size w') (pre++[(⟨some d,.call ⟨.value (.tmp yt),xs.toArray,ts⟩,ty,p,af,none⟩:Oper),⟨some d',.unOp .not T (.tmp d),ty',p',af',none⟩]).toArray [(⟨some d',.unOp .not T (.tmp d),ty',p',af',none⟩:Oper)] ⟨(d,.v Wr.bool true)::g2,[]⟩ ⟨(d',.v Wr.bool false)::(d,.v Wr.bool true)::g2,[]⟩:=
   Sw.J.cons (GK.none rfl) (Ft (b:=true) (by simp[dD,lk])) rfl hd' Sw.J.nil
  have:=O (Exit.then (run Fence.wide P Q cs) Q) [] _ w' M (fun D E G=>wpListIn_nil (show run Fence.wide P Q cs D E from ht w' A D E G));exact this
 ·have M:St ⟨P,N,fun _=>False,w',fun _=>False,none,[]⟩ ⟨[(d,.v Wr.bool false)],[]⟩ (u.put (some d) (.bool false)) w':=by
   refine⟨⟨ρ,Core.none (F:=⟨P,N,fun _=>False,w',fun _=>False,none,[]⟩) (fun q h=>h.elim),fun t s z=>?_⟩,by rw[kW,U],aa⟩;rw[mC] at z;rw[kX u d _ t WZ];split at z
   ·rename_i B;cases z;rw[WJ B];exact pE false _ _ _
   ·simp[lk] at z
  have O:Sw.J ⟨P,N,fun _=>False,w',fun _=>False,none,[]⟩ (pre++[(⟨some d,.call ⟨.value (.tmp yt),xs.toArray,ts⟩,ty,p,af,none⟩:Oper),⟨some d',.unOp .not T (.tmp d),ty',p',af',none⟩]).toArray [(⟨some d',.unOp .not T (.tmp d),ty',p',af',none⟩:Oper)] ⟨[(d,.v Wr.bool false)],[]⟩ ⟨[(d',.v Wr.bool true)],[]⟩:=
   Sw.J.cons (GK.none rfl) (Ft (b:=false) (by simp[dD,lk])) rfl hd' (Sw.J.fin (Pq (.cons (by simp[lk,AS.put]) .nil)))
  have:=O (Exit.then (run Fence.wide P Q cs) Q) [] _ w' M (fun D E G=>wpListIn_nil (show run Fence.wide P Q cs D E from hf w' A D E G));exact this
def X7(P:Program)(fn:Func)(J:Nat->World->Prop)(Jx:World->Prop)(m:Nat):Exit->Act->World->Prop:=bodyPost P fn fun e h=>(∃v,e= .returned v)/\(J m h\/Jx h)
theorem X7.of{fn:Func}{m:Nat}(y1:fn.results= #[]){e:Exit}(he:e= .normal\/e= .ret){a:Act}{V:World}(hd:a.defers=[])(h:J m V\/Jx V):X7 P fn J Jx m e a V:=by
 have z:a.defers=[]/\∃v,(results fn a.tmps).run P V= .ok v V/\((∃u,Ending.returned v= .returned u)/\(J m V\/Jx V)):=⟨hd,_,Ts y1,⟨_,rfl⟩,h⟩;rcases he with rfl | rfl<;>exact z
theorem Rq{gs:Nat->List (Nat×Slot)}{Q:Exit->Act->World->Prop}(I:oh P S w ρ l J Jx items){k:Nat}{V:World}{σ:AS}(hJ:J (k+1) V)(hk:k<items.length)(h:Sub (FW P N S w.heap.size V) σ ⟨gs (k+1),[]⟩):Sw.W (FW P N S w.heap.size V) [] σ (IQ N J items.length gs Q k):=by
 intro a z A;have u:=h a z A;obtain⟨ρ1,B,_⟩:=u.core;exact⟨hk,I.below _ V z hJ (B.W9 (fun _ h=>h)),_,rfl,rfl,u⟩
theorem Xj{fn:Func}{gs:Nat->List (Nat×Slot)}{k:Nat}{id:Nat}{Q':Exit->Act->World->Prop}(I:oh P S w ρ l J Jx items)(y1:fn.results= #[]){V:World}{σ:AS}(hJ:J k V)(hk:k=items.length)(hQ:∀a V',X7 P fn J Jx items.length .normal a V'->Q' (.exit id) a V'):XQ (FW P N S w.heap.size V) σ (IQ N J items.length gs Q' k) (.exit id):=by
 intro a u z;obtain⟨ρ1,A,_⟩:=z.core;exact hQ a u (X7.of y1 (.inl rfl) z.defers (.inl (hk ▸ I.below _ V u hJ (A.W9 (fun _ h=>h)))))
theorem Rr{fn:Func}{Q':Exit->Act->World->Prop}(I:oh P S w ρ l J Jx items)(y1:fn.results= #[]){V:World}{σ:AS}(hJ:Jx V)(hQ:∀a V',X7 P fn J Jx items.length .ret a V'->Q' .ret a V'):XQ ⟨P,N,fun _=>False,V,fun _=>False,none,[]⟩ σ Q' .ret:=by
 intro a u z;obtain⟨ρ1,A,_⟩:=z.core;exact hQ a u (X7.of y1 (.inr rfl) z.defers (.inr (I.aJe V u hJ (A.W9 (fun _ h=>h)))))
end
theorem Pr{P:Program}{f:FuncId}{fn:Func}{c:Code}{N:Nat}{cap:List Slot}{items:List (List Slot)}{X:Type}
  (hf:P.funcs[f]? =some fn) (hb:fn.body=some c) (hN:fn.ntmps=N) (hle:Nat.ble (cap.length+1) N=true) (us:X->List Value) (gx:X->List (Nat×Slot))
  (tc:∀(ρ:Nat->LV) (S:Nat->Prop) (w:World) (vs:List Value),aW ρ S w cap vs->∃x,vs=us x/\r6 ρ S w (gx x)/\∀t s,lk (gx x) t=some s->∃j u,t=j+1/\vs[j]? =some u/\s.ok ρ S w u)
  (h:∀S w ρ l J Jx x,oh P S w ρ l J Jx items->J 0 w->r6 ρ S w (gx x)->W (FW P N S w.heap.size w) [c] ⟨(0,.v (Wr.ZK (.func (.yield l) #[] #[]) rfl) ())::gx x,[]⟩ (X7 P fn J Jx items.length)):X8 P f cap items:=by
 intro S w vs ρ l J Jx ZX hv vb aPe aIp aQ1 hY;have I:oh P S w ρ l J Jx items:=⟨ZX,aPe,aIp,aQ1,hY⟩;obtain⟨x,O,C,K⟩:=tc ρ S w vs hv;refine calls_of_wp hf hb ?_;have L:=Gt hv;have hle:=w7 hle;have D:St (FW P N S w.heap.size w) ⟨(0,.v (Wr.ZK (.func (.yield l) #[] #[]) rfl) ())::gx x,[]⟩ { tmps:=(.func (.yield l) #[] #[]::vs).toArray++Array.replicate (fn.ntmps - (Value.func (.yield l) #[] #[]::vs).toArray.size) undef,defers:=[] } w:=by
  have E:r6 ρ S w ((0,.v (Wr.ZK (.func (.yield l) #[] #[]) rfl) ())::gx x):= .cons (@n7.flat _ (Wr.ZK (.func (.yield l) #[] #[]) rfl) ⟨fun h=>h⟩ _ _ _ _) C;refine I.start (N:=N) vb E (ρ1:=ρ) (S1:=S) (W1:=w) (fun t s A=>?_) ?_ rfl
  ·rw[mC] at A;split at A
   ·rename_i G;subst G;cases A;simp only[Slot.ok];refine Hb.2 ?_;simp[oe,Array.getElem?_append]
   ·obtain⟨j,u,rfl,z,B⟩:=K t s A;have F:j<vs.length:=by
     rcases K3 j vs.length with h | h
     ·exact h
     ·simp[X3 h] at z
    have:((Value.func (.yield l) #[] #[]::vs).toArray++Array.replicate (fn.ntmps - (Value.func (.yield l) #[] #[]::vs).toArray.size) undef).getD (j+1) undef=u:=by
     rw[oe,aDm (by simpa using F)];simp[z]
    rw[this];exact B
  ·simp only[aEi,aD8,aEj,D2];omega
 have z:=h S w ρ l J Jx x I vb C _ w D;have B:c.wpIn Fence.wide 0 P (Exit.then (run Fence.wide P (X7 P fn J Jx items.length) []) (X7 P fn J Jx items.length)) _ w:=z;refine wpIn_wide.1 (wpIn_mono B ?_);intro e a M H;cases e<;>exact H
theorem CF{P:Program}{f:FuncId}{fn:Func}{c:Code}{N:Nat}{α:Type}{e:Wr α}{z:α}{items:List (List Slot)}
  (hf:P.funcs[f]? =some fn) (hb:fn.body=some c) (hN:fn.ntmps=N) (hle:Nat.ble 2 N=true)
  (h:∀S w ρ l J Jx b off,oh P S w ρ l J Jx items->J 0 w->n7 ρ S w (.v (Wr.cp b off e) z)->W (FW P N S w.heap.size w) [c] ⟨[(0,.v (Wr.ZK (.func (.yield l) #[] #[]) rfl) ()),(1,.v (Wr.cp b off e) z)],[]⟩ (X7 P fn J Jx items.length)):X8 P f [.XR e z] items:=by
 refine Pr (X:=Nat×Nat) hf hb hN hle (fun x=>[.pointer (some ⟨x.1,x.2,none⟩)]) (fun x=>[(1,.v (Wr.cp x.1 x.2 e) z)]) (fun ρ S w vs C=>?_) (fun S w ρ l J Jx x I E F=>h S w ρ l J Jx x.1 x.2 I E (F.spec 1 _ rfl));simp only[aW,Slot.ok] at C;obtain⟨u,O,rfl,⟨b,off,G,rfl,H,K,L,M⟩,rfl⟩:=C;have B:(Slot.v (Wr.cp b off e) z).ok ρ S w (.pointer (some ⟨b,off,none⟩)):=by simp only[Slot.ok];exact Me.2 ⟨rfl,G,H,K,L,M⟩
 refine⟨(b,off),rfl,.cons (.cp B) .nil,fun t s A=>?_⟩;rw[mC] at A;split at A
 ·rename_i D;cases A;exact⟨0,_,D.symm,rfl,B⟩
 ·simp[lk] at A
theorem Ps{P:Program}{f:FuncId}{fn:Func}{c:Code}{N:Nat}{α β:Type}{e:Wr α}{z:α}{e':Wr β}{z':β}{items:List (List Slot)}
  (hf:P.funcs[f]? =some fn) (hb:fn.body=some c) (hN:fn.ntmps=N) (hle:Nat.ble 3 N=true)
  (h:∀S w ρ l J Jx b off b' u3,oh P S w ρ l J Jx items->J 0 w->n7 ρ S w (.v (Wr.cp b off e) z)->n7 ρ S w (.v (Wr.cp b' u3 e') z')->W (FW P N S w.heap.size w) [c] ⟨[(0,.v (Wr.ZK (.func (.yield l) #[] #[]) rfl) ()),(1,.v (Wr.cp b off e) z),(2,.v (Wr.cp b' u3 e') z')],[]⟩ (X7 P fn J Jx items.length)):
  X8 P f [.XR e z,.XR e' z'] items:=by
 refine Pr (X:=(Nat×Nat)×(Nat×Nat)) hf hb hN hle (fun x=>[.pointer (some ⟨x.1.1,x.1.2,none⟩),.pointer (some ⟨x.2.1,x.2.2,none⟩)]) (fun x=>[(1,.v (Wr.cp x.1.1 x.1.2 e) z),(2,.v (Wr.cp x.2.1 x.2.2 e') z')]) (fun ρ S w vs E=>?_)
  (fun S w ρ l J Jx x I G F=>h S w ρ l J Jx x.1.1 x.1.2 x.2.1 x.2.2 I G (F.spec 1 _ rfl) (F.spec 2 _ rfl))
 simp only[aW,Slot.ok] at E;obtain⟨u,F6,rfl,⟨b,off,H,rfl,K,L,M,O⟩,u',aa,rfl,⟨b',u3,Q,rfl,R,T,U,V⟩,rfl⟩:=E;have C:(Slot.v (Wr.cp b off e) z).ok ρ S w (.pointer (some ⟨b,off,none⟩)):=by simp only[Slot.ok];exact Me.2 ⟨rfl,H,K,L,M,O⟩
 have D:(Slot.v (Wr.cp b' u3 e') z').ok ρ S w (.pointer (some ⟨b',u3,none⟩)):=by simp only[Slot.ok];exact Me.2 ⟨rfl,Q,R,T,U,V⟩
 refine⟨((b,off),(b',u3)),rfl,.cons (.cp C) (.cons (.cp D) .nil),fun t s A=>?_⟩;rw[mC] at A;split at A
 ·rename_i B;cases A;exact⟨0,_,B.symm,rfl,C⟩
 ·rw[mC] at A;split at A
  ·rename_i B;cases A;exact⟨1,_,B.symm,rfl,D⟩
  ·simp[lk] at A
def chunks{α:Type}(n:Nat)(xs:List α):List (List α):=(List.range ((xs.length+n - 1) / n)).map fun k=>(xs.drop (k*n)).take n
theorem xN{α:Type}{n:Nat}(hn:1<=n)(xs:List α){k:Nat}:k<(chunks n xs).length↔k*n<xs.length:=by
 simp only[chunks,jx,aEk];rw[Nat.lt_div_iff_mul_lt (by omega)];omega
theorem Mg{α:Type}{n:Nat}(hn:1<=n){xs:List α}{k:Nat}(h:k*n<xs.length):(chunks n xs)[k]? =some ((xs.drop (k*n)).take n):=by
 have:=(xN hn xs).2 h;simp only[chunks,jx,aEk] at this;simp[chunks,this]
theorem Kb{α:Type}{xs:List α}{n:Int}(hn:1<=n)(pd:n<=4294967296)(hlen:(xs.length:Int)<=4294967296){k:Nat}(h:(k:Int)*n<xs.length):
  k*n.toNat<xs.length/\sub xs (k*n) xs.length=some (xs.drop (k*n.toNat))/\
  sub xs (k*n) (ar .add .i64 (k*n) (min n ((xs.drop (k*n.toNat)).length:Int)))=some ((xs.drop (k*n.toNat)).take n.toNat)/\
  (ar .add .i64 (k*n) (min n ((xs.drop (k*n.toNat)).length:Int))<=ar .add .i64 (k*n) (min n ((xs.drop (k*n.toNat)).length:Int))/\ar .add .i64 (k*n) (min n ((xs.drop (k*n.toNat)).length:Int))<=xs.length)/\ar .add .i64 (k*n) n=((k+1:Nat):Int)*n:=by
 obtain⟨m,rfl⟩:∃m:Nat,n=m:=⟨n.toNat,by omega⟩;have u:(0:Int)<=(k:Int)*m:=Int.mul_nonneg (by omega) (by omega);have z:((k:Int)*m)=((k*m:Nat):Int):=by push_cast;rfl
 have C:k*m<xs.length:=by rw[z] at h;exact_mod_cast h
 have A:(xs.drop (k*m)).length=xs.length - k*m:=R6 ..;have B:∀x:Int,0<=x->x<=4294967296->ar .add .i64 (k*m) x=k*m+x:=by
  intro x K L;unfold ar;refine Ay ?_;unfold Cw;have D:IntKind.min .i64= -9223372036854775808:=by decide
  have E:IntKind.max .i64=9223372036854775807:=by decide
  rw[D,E];omega
 simp only[m6];have F:(0:Int)<=min (m:Int) ((xs.drop (k*m)).length:Int):=by omega
 have G:min (m:Int) ((xs.drop (k*m)).length:Int)<=4294967296:=by omega
 rw[B _ F G,B _ (by omega) pd];refine⟨C,?_,?_,⟨yu _,by rw[A];omega⟩,by push_cast;rw[Int.add_mul,Int.one_mul]⟩
 ·unfold sub;rw[WJ ⟨u,by omega,yu _⟩,z,m6,m6,aDb]
 ·unfold sub;rw[WJ ⟨u,by omega,by rw[A];omega⟩];have H:((k:Int)*m).toNat=k*m:=by omega
  have I:((k:Int)*m+min (m:Int) ((xs.drop (k*m)).length:Int)).toNat=k*m+min m (xs.drop (k*m)).length:=by omega
  rw[H,I,List.drop_take];congr 1;rw[Nat.add_sub_cancel_left,<-List.take_take,aDb]
def E4{α:Type}(xs:List α):List (Int×α):=(xs.zipIdx.map fun x=>((x.2:Int),x.1)).reverse
end Go.Sw
namespace Go.Sw
open Go Go.RowKit
section
variable {F:WV}{σ:AS}{pb:Option Nat}{s:Slot}{d:Option Tmp}{ty:TypeId}{p:String}{af:Array Edge}{gd:Option (Nat×Bool)}{x y z:Operand}
theorem zT{T:TypeId}{zv:Value}{cs:List Value}{l:List Slot}{new:List (Nat×VH)}(i:Nat)(hz:∀w,(zeroValue T).run F.P w= .ok zv w)(hc:zv.cells=cs.toArray)(hl:vh cs l new)(hn:al new)(hf:σ.free new=true)(u9:(dU l).all (fun j=> !Nat.beq j i)=true):
  JO F ⟨d,.alloc T,ty,p,af,gd⟩ σ (.ptr i 0) ((i,.box T l)::new):=by
 intro ρ S a w K;obtain⟨ρ',U,N,K',h3,h4⟩:=Zt hn hf K;refine VJ.value (w':=w.alloc (.cells cs.toArray T)) (v:= .pointer (some ⟨w.heap.size,0,none⟩)) (by simp[execOp,Instr.alloc,hz,xK,hc]) ?_;obtain⟨ρ2,V,X,k3,O⟩:=XJ.box (ρ:=ρ') (S:=S) (w:=w) (T:=T) i (hl ρ' S w N) u9;have I:∀j,j≠i->ρ2 j=ρ' j:=fun j u=>V j (by rw[cK,WA (fw u)];rfl);have D:∀j A,j≠i->aX new j=some A->ρ2 j= .of (.slice none 0 0):=fun j A u h=>by rw[I j u,N j A h]
 have L:Un S ρ2 ((i,.box T l)::new)=Un S ρ2 [(i,.box T l)]:=by
  funext k;refine propext ⟨fun h=>?_,fun h=>?_⟩
  ·rcases h with h |⟨j,A,C,E⟩
   ·exact .inl h
   ·by_cases u:j=i
    ·subst u;exact .inr ⟨j,.box T l,by simp[aX],E⟩
    ·rw[cK,WA (fw u)] at C;rw[D j A u C] at E;simp[pD,YN] at E
  ·rcases h with h |⟨j,A,C,E⟩
   ·exact .inl h
   ·rw[cK] at C;split at C
    ·rename_i u;subst u;exact .inr ⟨i,.box T l,by simp[aX],E⟩
    ·simp[aX] at C
 refine⟨ρ2,fun j u=>?_,X,?_,?_,?_,?_⟩
 ·rw[cK] at u;split at u
  ·cases u
  ·rename_i z;rw[I j (fw z)];exact U j u
 ·rw[L];exact k3
 ·intro j A u;rw[L];rw[cK] at u;split at u
  ·rename_i z;subst z;cases u;exact O.own _ _ (by rw[cK,WJ rfl])
  ·rename_i z;rw[D j A (fw z) u];exact hn.spec j A u _ _ _
 ·intro j A b u B;rw[cK] at u;split at u
  ·rename_i z;subst z;cases u;exact O.fresh _ _ b (by rw[cK,WJ rfl]) B
  ·rename_i z;rw[D j A (fw z) u] at B;simp[pD,YN] at B
 ·intro j Q A R b u G B M;rw[cK] at u G;split at u
  ·rename_i z;subst z;split at G
   ·rename_i H;exact H
   ·rename_i H;rw[D Q R (fw H) G] at M;simp[pD,YN] at M
  ·rename_i z;rw[D j A (fw z) u] at B;simp[pD,YN] at B
def Lns{α β:Type}(e:Wr α)(z:α)(off:Nat)(e':Wr β)(z':β)(u:β->α):Prop:=∀S w cs,e.ok z S w cs->∃a c d,cs=a++(c++d)/\a.length=off/\e'.ok z' S w c/\∀z2 c2,e'.ok z2 S w c2->e.ok (u z2) S w (a++(c2++d))
theorem Lns.here{α:Type}{e:Wr α}{z:α}:Lns e z 0 e z (fun y=>y):=fun S w u h=>⟨[],u,[],by simp,rfl,h,fun B C A=>by simpa using A⟩
theorem Lns.snd{α β γ:Type}{a:Wr α}{b:Wr β}{e':Wr γ}{z:α×β}{z':γ}{off:Nat}{u:γ->β}(h:Lns b z.2 off e' z' u):Lns (Wr.pr a b) z (a.n+off) e' z' (fun y=>(z.1,u y)):=by
 rintro S w M ⟨c,d,rfl,D,L⟩;obtain⟨B,G,C,rfl,H,I,K⟩:=h S w d L;exact⟨c++B,G,C,by simp,by rw[sM,a.len D,H],I,fun E A F=>⟨c,B++(A++C),by simp,D,K E A F⟩⟩
theorem Tu{α β:Type}{e:Wr α}{zs:List α}{z:α}{e':Wr β}{z' z2:β}{u:β->α}{T U:TypeId}{i k off:Nat}(hz:zs[k]? =some z)(hx:dD σ.g x=some (.el i k e.n off))(he:aX σ.d i=some (.arr T e zs))(hy:dD σ.g y=some (.v e' z2))(hp:Lns e z off e' z' u)
  (hS:∀w,(sizeOf U).run F.P w= .ok e'.n w):JM F ⟨none,.store U x y,ty,p,af,gd⟩ σ ⟨σ.g,(i,.arr T e (zs.set k (u z2)))::σ.d⟩:=by
 refine pZ he rfl fun ρ a w S I=>?_;have K:=cI S I (Op.store U x y).operands;obtain⟨b,aa,h,cs,A,L,h2,H,h4,h5,h6,h7⟩:=OW K (x:=x) (by simp[Op.operands]) hx he;have G:=qV (s:= .v e' z2) rfl (Jv I hy);simp only[Slot.YW] at G;obtain⟨B,c,C,rfl,hl,N0,l8⟩:=qT h4 hz;obtain⟨D,M,E,rfl,I8,N,ab⟩:=hp _ w c N0;have O:h++(B++(D++(M++E)++C)++A)=(h++B++D)++(M++(E++C++A)):=by simp
 rw[O] at H;have Q:=lA (P:=F.P) (w:=w) (U:=U) (off:=h.length+(k*e.n+off)) hS (by have:=e'.len G;simp only[Z0] at this;omega) (fun q V=>e'.cell G q V) H (by simp[hl,I8,aDs]) (e'.len N);have R:(h++B++D)++((a.eval y).cells.toList++(E++C++A))=h++((B++((D++((a.eval y).cells.toList++E))++C))++A):=by simp
 refine⟨b,w.setRow b ((h++B++D)++((a.eval y).cells.toList++(E++C++A))).toArray,.inl (by rw[L];rfl),Z1.setRow w b _,?_,fun X=>?_⟩
 ·exact lB h2 Q
 ·refine .inr ⟨b,aa,h,B++((D++((a.eval y).cells.toList++E))++C),A,by simpa using L,?_,Wr.VN (l8 (u z2) _ (ab z2 _ G)) X,by simpa using h5,?_,by simpa using h7⟩
  ·rw[<-R];exact setRow_heap w b _ _ T _ H
  ·have:=e'.len G;have:=e'.len N;simp only[sM] at h6 ⊢;omega
theorem Ee{α:Type}{x:Option α}{r:α}(h:x=some r):(x.bind fun v=>some v)=some r:=by rw[h];rfl
end
end Go.Sw
namespace Go.Sw
open Go
theorem CG{α:Type}(xs:List α):(E4 xs).length=xs.length:=by simp[E4]
theorem FU{α:Type}{xs:List α}{k:Nat}(h:k<xs.length):∃x,(E4 xs)[k]? =some ((xs.length:Int) - 1 - (k:Nat),x)/\Sw.idx xs ((xs.length:Int) - 1 - (k:Nat))=some x:=by
 have u:xs.length - 1 - k<xs.length:=by omega
 refine⟨xs[xs.length - 1 - k],?_,?_⟩
 ·unfold E4;rw[List.getElem?_reverse (by simpa using h)];simp only[jx,List.length_zipIdx,ka,List.getElem?_zipIdx,D3 u,pw,za];congr 2;omega
 ·unfold Sw.idx;have e:((xs.length:Int) - 1 - (k:Nat)).toNat=xs.length - 1 - k:=by omega
  rw[WJ (by omega),e,D3 u]
theorem FV{n k:Nat}(h:(n:Int)<=4294967296)(hk:k<=n):ar .sub .i64 ((n:Int) - 1 - (k:Nat)) 1=(n:Int) - 1 - ((k+1:Nat):Int):=by
 have e:(n:Int) - 1 - (k:Nat) - 1=(n:Int) - 1 - ((k+1:Nat):Int):=by push_cast;omega
 show IntKind.wrap .i64 _=_;rw[e];refine Ay ?_;unfold Cw;have u:IntKind.min .i64= -9223372036854775808:=by decide
 have z:IntKind.max .i64=9223372036854775807:=by decide
 rw[u,z];omega
theorem CH{n:Nat}(h:(n:Int)<=4294967296):ar .sub .i64 (n:Int) 1=(n:Int) - 1 - ((0:Nat):Int):=by
 have e:(n:Int) - 1=(n:Int) - 1 - ((0:Nat):Int):=by simp
 show IntKind.wrap .i64 ((n:Int) - 1)=_;refine(Ay ?_).trans e;unfold Cw;have u:IntKind.min .i64= -9223372036854775808:=by decide
 have z:IntKind.max .i64=9223372036854775807:=by decide
 rw[u,z];omega
end Go.Sw
namespace Go.Sw
open Go Go.RowKit
section
variable {F:WV}{σ:AS}{x y:Operand}{d:Option Tmp}{ty:TypeId}{p:String}{af:Array Edge}{gd:Option (Nat×Bool)}
end
end Go.Sw
namespace Go.Sw
open Go
theorem Be{F:WV}{σ:AS}{o:Oper}{l:List Slot}{new:List (Nat×VH)}{α:Type}{e:Wr α}{z:α}(h:JO F o σ (.agg l) new)(hs:K4 l e z)(ha:e.agg=true):JO F o σ (.v e z) new:=by
 intro ρ S a w K;refine(h ρ S a w K).mono ?_;rintro v H ⟨ρ',D,E,A,G⟩;refine⟨ρ',D,E,?_,G⟩;simp only[Slot.ok] at A ⊢;obtain⟨u,B,C⟩:=A;exact⟨u,(hs _ _ _ u).1 C,by rw[B];simp[Wr.pk,ha]⟩
end Go.Sw
namespace Go.Sw
open Go
theorem FY{P:Program}{fn:Func}{a:Act}{w:World}{r0 r1 r2 r3 r4:ResultVar}{v0 v1 v2 v3 v4:Value}(y1:fn.results= #[r0,r1,r2,r3,r4])(h0:(wM a r0).run P w= .ok v0 w)(h1:(wM a r1).run P w= .ok v1 w)(h2:(wM a r2).run P w= .ok v2 w)(h3:(wM a r3).run P w= .ok v3 w)(h4:(wM a r4).run P w= .ok v4 w):(results fn a.tmps).run P w= .ok (.tuple #[v0,v1,v2,v3,v4]) w:=by
 rw[xI,y1];simp only[aDw,aCt,aEo,Sem.run_bind,Sem.run_map,h0,h1,h2,h3,h4,Result.andThen_ok,Sem.run_pure];simp
section
variable {F F':WV}{σ:AS}{fn:Func}{r0 r1 r2 r3 r4:ResultVar}{s0 s1 s2 s3 s4:Slot}{new:List (Nat×VH)}
theorem Rs(hF:T7 F F')(hR:∀k,¬F.R k)(y1:fn.results= #[r0,r1,r2,r3,r4])(h0:RV F σ r0 s0)(h1:RV F σ r1 s1)(h2:RV F σ r2 s2)(h3:RV F σ r3 s3)(h4:RV F σ r4 s4)(hn:y7 new σ.d)(YK:kY (.WC [s0,s1,s2,s3,s4]) new=true):XQ F' σ (Om F fn (.WC [s0,s1,s2,s3,s4]) new) .ret:=
 yM hF fun ρ a w h u=>by
  obtain⟨z,E,b0⟩:=h0 ρ a w h u;obtain⟨A,G,H⟩:=h1 ρ a w h u;obtain⟨B,I,K⟩:=h2 ρ a w h u;obtain⟨C,L,M⟩:=h3 ρ a w h u;obtain⟨D,N,O⟩:=h4 ρ a w h u;refine⟨_,FY y1 E G I L N,_,rfl,XJ.n9 hR h ?_ hn YK⟩;simp only[Slot.ok];exact⟨[z,A,B,C,D],rfl,by simp only[aW];exact⟨z,_,rfl,b0,A,_,rfl,H,B,_,rfl,K,C,_,rfl,M,D,_,rfl,O,rfl⟩⟩
end
end Go.Sw
namespace Go.Sw
open Go Go.RowKit
def Kq(g:List (Nat×Slot))(o:Oper):List Nat:=o.op.operands.toList.flatMap fun x=>match dD g x with | some s=>s.YF | none=>[]
structure Loc (ops:Array Oper) (o:Oper) (σ0 σ:AS):Prop where
 g:∀u∈looks ops o,lk σ.g u=lk σ0.g u
 d:∀l∈Kq σ0.g o,aX σ.d l=aX σ0.d l
section
variable {F:WV}{ops:Array Oper}{o:Oper}{σ0 σ:AS}
theorem Loc.ev(h:Loc ops o σ0 σ){x:Operand}(hx:x∈o.op.operands):dD σ.g x=dD σ0.g x:=by
 cases x with
 |tmp u=>exact h.g u (by simp only[looks,K9,aD6];exact .inl ⟨_,by simpa using hx,by simp[rd]⟩)
 |const u=>rfl
 |global g=>rfl
 |func f=>rfl
theorem Loc.y9(h:Loc ops o σ0 σ){x:Operand}{s:Slot}{l:Nat}(hx:x∈o.op.operands)(hs:dD σ0.g x=some s)(hl:l∈s.YF):aX σ.d l=aX σ0.d l:=
 h.d l (aD6.2 ⟨x,by simpa using hx,by rw[hs];exact hl⟩)
theorem OZ{s:Slot}{new:List (Nat×VH)}(h:JO F o σ0 s new)(hl:Loc ops o σ0 σ):JO F o σ s new:=fun ρ S a w K=>
 h ρ S a w ⟨K.low,fun x u s z=>K.slot x u s (by rw[hl.ev u];exact z),fun x u s z i A B C=>K.y9 x u s (by rw[hl.ev u];exact z) i A B (by rw[hl.y9 u z A];exact C)⟩
theorem PA{b:Bool}(h:GK ops σ0.g o b)(hl:Loc ops o σ0 σ):GK ops σ.g o b:=by
 unfold GK at h ⊢;split
 ·rename_i z;rw[z] at h;exact h
 ·rename_i j F z;rw[z] at h;have B:∀t,(ops[j]?).bind (·.dst)=some t->lk σ.g t=lk σ0.g t:=fun t C=>hl.g t (by simp[looks,z,C]);rcases h with⟨t,x,u,A,D⟩|⟨E,t,u,A⟩
  ·exact .inl ⟨t,x,u,by rw[B t u];exact A,D⟩
  ·exact .inr ⟨E,t,u,by rw[B t u];exact A⟩
end
structure Itm where
 s:Slot
 nw:List (Nat×VH)
 fr:Bool
 rl:List Nat
def Xk(ops:Array Oper)(ms:List Nat):Bool:=Nat.beq ms.length ops.size && (List.range ops.size).all fun i=>match ops[i]? with
 |none=>false
 |some o=>Nat.beq (ms.getD i 0) ((Ly o).foldl (fun m j=>m ||| 1 <<< j ||| ms.getD j 0) 0)
inductive kf (ops:Array Oper):Nat->Nat->Prop
 |one {i j:Nat} {o:Oper}:ops[i]? =some o->j∈Ly o->kf ops i j
 |up {i k j:Nat} {o:Oper}:ops[i]? =some o->k∈Ly o->kf ops k j->kf ops i j
theorem kf.down{ops:Array Oper}{L:Nat->Bool}(h:FG ops L):∀{i j:Nat},kf ops i j->L i=true->L j=true:=by
 intro i j A
 induction A with
 |one z B=>exact fun u=>h _ _ u z _ B
 |up z C _ D=>exact fun u=>D (h _ _ u z _ C)
theorem Hc{ms:List Nat}{b:Nat}:∀{l:List Nat} {m:Nat},(l.foldl (fun m j=>m ||| 1 <<< j ||| ms.getD j 0) m).testBit b=true->m.testBit b=true\/∃j∈l,j=b\/(ms.getD j 0).testBit b=true
 | [],m,h=> .inl h
 |j::l,m,h=>by
  rw[R5] at h;rcases Hc (l:=l) h with h |⟨q,u,h⟩
  ·rw[Nat.testBit_or,Nat.testBit_or,yx,yx] at h;rcases h with (h | h) | h
   ·exact .inl h
   ·refine .inr ⟨j,Y9,.inl ?_⟩;rw[Nat.one_shiftLeft,Nat.testBit_two_pow] at h;simpa using h
   ·exact .inr ⟨j,Y9,.inr h⟩
  ·exact .inr ⟨q,Y8 _ u,h⟩
theorem Hd{ops:Array Oper}(hb:Da ops=true){i j:Nat}{o:Oper}(ho:ops[i]? =some o)(hj:j∈Ly o):j<i:=by
 have u:i<ops.size:=by
  rcases K3 i ops.size with h | h
  ·exact h
  ·simp[zd h] at ho
 have:=j4.1 hb i (jv.2 u);simp only[ho] at this;simpa using j4.1 this j hj
theorem KX{ops:Array Oper}{ms:List Nat}(hb:Da ops=true)(hm:Xk ops ms=true):∀i j,(ms.getD i 0).testBit j=true->kf ops i j:=by
 simp only[Xk,D1,j4] at hm;obtain⟨A,hm⟩:=hm;have A:=s8 A;intro i
 induction i using Nat.strongRecOn with
 |_ i D=>
  intro j h;rcases K3 i ops.size with C | E
  ·have B:=hm i (jv.2 C);have u:ops[i]? =some ops[i]:=aBt C;simp only[u] at B;rw[s8 B] at h;rcases Hc h with h |⟨q,z,rfl | h⟩
   ·simp at h
   ·exact .one u z
   ·exact .up u z (D q (Hd hb u z) j h)
  ·rw[O4,X3 (by omega)] at h;simp at h
theorem kf.lt{ops:Array Oper}(hb:Da ops=true):∀{i j:Nat},kf ops i j->j<i:=by
 intro i j h
 induction h with
 |one u z=>exact Hd hb u z
 |up u A _ B=>exact Nat.lt_trans B (Hd hb u A)
def He(ops:Array Oper)(n:Nat)(ms:List Nat):Bool:=
 (List.range ops.size).all fun i=>
  match ops[i]? with
  |none=>false
  |some o=>
   if i<n then
    (match o.dst with
     |none=>true
     |some t=>(List.range n).all fun j=>
       match ops[j]? with
       |none=>false
       |some h=>(j==i || h.dst != some t) && (!(looks ops h).contains t || (ms.getD j 0).testBit i || (ms.getD i 0).testBit j))
   else (List.range i).all fun j=>(ms.getD i 0).testBit j
def Bf(dst:Nat->Option Tmp)(sl:Nat->Slot)(g:List (Nat×Slot)):Nat->(Nat->Bool)->List (Nat×Slot)
 | 0,_=>g
 |m+1,L=>bif L m then iO (dst m) (sl m) (Bf dst sl g m L) else Bf dst sl g m L
section
variable {dst:Nat->Option Tmp}{sl:Nat->Slot}{g:List (Nat×Slot)}{nw:Nat->List (Nat×VH)}{d:List (Nat×VH)}
theorem Hf{t:Option Tmp}{s:Slot}{g:List (Nat×Slot)}{u:Nat}:lk (iO t s g) u=if t=some u then some s else lk g u:=by
 cases t with
 |none=>simp[iO]
 |some t=>simp only[iO,mC,A7]
theorem Ef{u:Nat}{L L':Nat->Bool}:∀{m:Nat},(∀i,i<m->dst i=some u->L i=L' i)->lk (Bf dst sl g m L) u=lk (Bf dst sl g m L') u
 | 0,_=>rfl
 |m+1,h=>by
  have A:=Ef (m:=m) (fun i B=>h i (by omega));simp only[Bf];by_cases z:dst m=some u
  ·rw[h m (by omega) z];cases L' m<;>simp[Hf,z,A]
  ·cases L m<;>cases L' m<;>simp[Hf,z,A]
theorem FZ{u j:Nat}{L:Nat->Bool}(hj:dst j=some u)(hL:L j=true):∀{m:Nat},j<m->(∀i,i<m->i≠j->dst i≠some u)->lk (Bf dst sl g m L) u=some (sl j)
 | 0,h,_=>by omega
 |m+1,h,A=>by
  simp only[Bf];by_cases z:j=m
  ·subst z;rw[hL];simp[Hf,hj]
  ·have B:=FZ (m:=m) hj hL (by omega) (fun i C=>A i (by omega));have:=A m (by omega) (fw z);cases L m<;>simp[Hf,this,B]
theorem Rt{y:Nat×Slot}{L:Nat->Bool}:∀{m:Nat},y∈Bf dst sl g m L->y∈g\/∃i,i<m/\L i=true/\y.2=sl i
 | 0,h=> .inl h
 |m+1,h=>by
  simp only[Bf] at h;cases hL:L m with
  |false=>
   rw[hL] at h;rcases Rt (m:=m) h with h |⟨i,z,u⟩
   ·exact .inl h
   ·exact .inr ⟨i,by omega,u⟩
  |true=>
   rw[hL] at h;simp only[XG] at h;have:y∈Bf dst sl g m L\/y.2=sl m:=by
    cases hd:dst m with
    |none=>rw[hd] at h;exact .inl h
    |some t=>
     rw[hd] at h;rcases m5.1 h with rfl | h
     ·exact .inr rfl
     ·exact .inl h
   rcases this with h | h
   ·rcases Rt (m:=m) h with h |⟨i,z,u⟩
    ·exact .inl h
    ·exact .inr ⟨i,by omega,u⟩
   ·exact .inr ⟨m,by omega,hL,h⟩
end
theorem St.congr{F:WV}{σ σ':AS}{a:Act}{w:World}(hg:∀u,lk σ'.g u=lk σ.g u)(hd:∀l,aX σ'.d l=aX σ.d l)(h:St F σ a w):St F σ' a w:=by
 obtain⟨⟨ρ,B,C⟩,D,E⟩:=h;have z:∀l en,aX σ.d l=some en↔aX σ'.d l=some en:=fun l en=>by rw[hd]
 exact⟨⟨ρ,B.congr z,fun t s A=>by rw[<-Un.congr z];exact C t s (by rw[<-hg];exact A)⟩,D,E⟩
section
variable {F:WV}{ops:Array Oper}
theorem Fy{dst:Nat->Option Tmp}{sl:Nat->Slot}{g:List (Nat×Slot)}{L:Nat->Bool}{m:Nat}:∀{n:Nat},m<=n->(∀i,m<=i->i<n->L i=false)->Bf dst sl g n L=Bf dst sl g m L
 | 0,h,_=>by
  have:m=0:=by omega
  subst this;rfl
 |n+1,h,z=>by
  rcases K3 n m with u | u
  ·have:m=n+1:=by omega
   subst this;rfl
  ·simp only[Bf,z n u (by omega),pF];exact Fy u fun i A B=>z i A (by omega)
theorem Iu{dst:Nat->Option Tmp}{sl:Nat->Slot}{g:List (Nat×Slot)}{L:Nat->Bool}:∀{m:Nat},Bf dst sl g (m+1) L=Bf (fun i=>dst (i+1)) (fun i=>sl (i+1)) (bif L 0 then iO (dst 0) (sl 0) g else g) m (fun i=>L (i+1))
 | 0=>rfl
 |m+1=>by rw[Bf,Iu (m:=m)];rfl
end
end Go.Sw
namespace Go.Sw
open Go Go.RowKit
section
variable {F:WV}{ops:Array Oper}{os:List Oper}{σ σ':AS}{its:List Itm}{s s0:Slot}{d:Option Tmp}{pb:Option Nat}{ty:TypeId}{p:String}{af:Array Edge}{gd:Option (Nat×Bool)}{x y:Operand}
end
end Go.Sw
namespace Go.Sw
open Go Go.RowKit
def Wr.raw:Wr Value where
 n:=1
 agg:=false
 ok x _ _ cs:=cs=[x]/\x.oneCell'=true
 len h:=by rw[h.1];rfl
 one _:=rfl
 cell h c hc:=by rw[h.1] at hc;simp at hc;subst hc;exact h.2
 mono h _:=h
def ZM{α:Type}(T:TypeId)(e:Wr α)(xs:List α)(S:Nat->Prop)(w:World)(v:Value):Prop:=
 (xs=[]/\v= .slice none 0 0)\/∃b cap pre cs post,v= .slice (some ⟨b,pre.length,none⟩) xs.length cap/\
   w.heap[b]? =some (.cells (pre++(cs++post)).toArray T (0,0))/\e.YU xs S w cs/\xs.length<=cap/\cap*e.n<=cs.length+post.length/\xs.length<=140737488355328
theorem ZM.mono{α:Type}{T:TypeId}{e:Wr α}{xs:List α}{S S':Nat->Prop}{w w':World}{v:Value}(h:ZM T e xs S w v)(k:Ext S S' w w')(hb:∀b,YN v=some b->w'.heap[b]? =w.heap[b]?):ZM T e xs S' w' v:=by
 rcases h with h |⟨b,z,A,B,C,u,D,E,F⟩
 ·exact .inl h
 ·exact .inr ⟨b,z,A,B,C,u,by rw[hb b (by rw[u];rfl)];exact D,Wr.VN E k,F⟩
theorem ZM.slice{α:Type}{T:TypeId}{e:Wr α}{xs:List α}{S:Nat->Prop}{w:World}{v:Value}(h:ZM T e xs S w v):∃a c,v= .slice a xs.length c:=by
 rcases h with⟨rfl,rfl⟩|⟨b,z,A,B,C,u,_⟩
 ·exact⟨none,0,rfl⟩
 ·exact⟨_,_,u⟩
end Go.Sw
namespace Go.Sw
open Go Go.RowKit
theorem Core.ko{F:WV}{d d':List (Nat×VH)}{ρ ρ':Nat->LV}{w:World}(hc:Core F d ρ w)
  (hU:∀l en b,aX d' l=some en->qS (ρ' l) b->∃l0 YT,aX d l0=some YT/\qS (ρ l0) b)
  (y3:∀i j en en' b,aX d' i=some en->aX d' j=some en'->qS (ρ' i) b->qS (ρ' j) b->i=j)
  (u6:Ext (Un F.S0 ρ d) (Un F.S0 ρ' d') w w->∀l en,aX d' l=some en->en.ok ρ' (Un F.S0 ρ' d') w (ρ' l)):
  Core F d' ρ' w/\Ext (Un F.S0 ρ d) (Un F.S0 ρ' d') w w:=by
 have B:Ext (Un F.S0 ρ d) (Un F.S0 ρ' d') w w:=⟨YO _,fun k _ C=>⟨rfl,fun h=>C (by
  rcases h with h |⟨l,en,D,E⟩
  ·exact .inl h
  ·obtain⟨l0,YT,u,z⟩:=hU l en k D E
   exact .inr ⟨l0,YT,u,z⟩)⟩⟩
 refine⟨⟨hc.low,hc.size,hc.frame,hc.os,hc.tape,hc.output,u6 B,fun i en b h A=>?_,y3,fun i en b h A=>?_⟩,B⟩
 ·obtain⟨l0,YT,u,z⟩:=hU i en b h A;exact hc.fresh l0 YT b u z
 ·obtain⟨l0,YT,u,z⟩:=hU i en b h A;exact hc.apart l0 YT b u z
structure Rws {α:Type} (T2:TypeId) (e:Wr α) (xss:List (List α)) (o:Option Nat) (S:Nat->Prop) (w:World) (x:Nat->Prop) (b0:Option Nat) (hs:List Value):Prop where
 len:hs.length=xss.length
 ok:∀j xs h,o≠some j->xss[j]? =some xs->hs[j]? =some h->ZM T2 e xs S w h
 own:∀j h k,o≠some j->hs[j]? =some h->YN h=some k->x k/\b0≠some k
 inj:∀j j' h h' k,o≠some j->o≠some j'->hs[j]? =some h->hs[j']? =some h'->YN h=some k->YN h'=some k->j=j'
section
variable {F:WV}{σ:AS}{pb:Option Nat}{s:Slot}{d:Option Tmp}{ty:TypeId}{p:String}{af:Array Edge}{gd:Option (Nat×Bool)}{x y:Operand}{α:Type}{e:Wr α}{T T2 U:TypeId}{xss:List (List α)}{i j:Nat}
theorem Hg{dd:List (Nat×VH)}{l k:Nat}{en en':VH}(h:aX ((k,en')::dd) l=some en):(l=k/\en=en')\/(l≠k/\aX dd l=some en):=by
 rw[cK] at h;split at h
 ·rename_i u;cases h;exact .inl ⟨u.symm,rfl⟩
 ·rename_i u;exact .inr ⟨fun e=>u e.symm,h⟩
theorem Mh{v:Value}{x:Nat->Prop}{b:Nat}:qS ⟨v,x⟩ b↔YN v=some b\/x b:=Iff.rfl
end
end Go.Sw
namespace Go.Sw
open Go Go.RowKit
theorem Core.step{F:WV}{d d':List (Nat×VH)}{ρ ρ':Nat->LV}{w w':World}(hc:Core F d ρ w){c:Option Nat}(bc:g9 c w w')(ZT:∀b,c=some b->∃l en,aX d l=some en/\qS (ρ l) b)
  (hU:∀l en b,aX d' l=some en->qS (ρ' l) b->(w.heap.size<=b/\b<w'.heap.size)\/∃l0 YT,aX d l0=some YT/\qS (ρ l0) b)
  (y3:∀i j en en' b,aX d' i=some en->aX d' j=some en'->qS (ρ' i) b->qS (ρ' j) b->i=j)
  (u6:Ext (Un F.S0 ρ d) (Un F.S0 ρ' d') w w'->∀l en,aX d' l=some en->en.ok ρ' (Un F.S0 ρ' d') w' (ρ' l)):
  Core F d' ρ' w'/\Ext (Un F.S0 ρ d) (Un F.S0 ρ' d') w w':=by
 have E:Ext (Un F.S0 ρ d) (Un F.S0 ρ' d') w w':=⟨bc.size,fun k C G=>⟨bc.other k C (fun e=>G (by obtain⟨l,en,A,B⟩:=ZT k e.symm;exact .inr ⟨l,en,A,B⟩)),fun h=>G (by
  rcases h with h |⟨l,en,A,B⟩
  ·exact .inl h
  ·rcases hU l en k A B with h |⟨l0,YT,u,z⟩
   ·omega
   ·exact .inr ⟨l0,YT,u,z⟩)⟩⟩
 refine⟨⟨hc.low,db hc.size bc.size,fun k C H=>?_,bc.os.trans hc.os,bc.tape.trans hc.tape,bc.output.trans hc.output,u6 E,fun i en b h D=>?_,y3,fun i en b h D=>?_⟩,E⟩
 ·rw[bc.other k (O3 C hc.size) (fun e=>?_)]
  ·exact hc.frame k C H
  ·obtain⟨l,en,A,B⟩:=ZT k e.symm;rcases (hc.fresh l en k A B).1 with h | h
   ·omega
   ·exact H h
 ·rcases hU i en b h D with u |⟨l0,YT,u,z⟩
  ·exact⟨.inl (db hc.size u.1),u.2⟩
  ·exact⟨(hc.fresh l0 YT b u z).1,O3 (hc.fresh l0 YT b u z).2 bc.size⟩
 ·rcases hU i en b h D with u |⟨l0,YT,u,z⟩
  ·intro I;have:=hc.low b I;have:=hc.size;omega
  ·exact hc.apart l0 YT b u z
section
variable {F:WV}{σ:AS}{pb:Option Nat}{s:Slot}{d:Option Tmp}{ty:TypeId}{p:String}{af:Array Edge}{gd:Option (Nat×Bool)}{x y z:Operand}{α:Type}{e:Wr α}{T T2 U:TypeId}{xss:List (List α)}{i j m:Nat}
theorem Zw{xs ys:List α}{lo hi:Int}{S:Nat->Prop}{w:World}{v:Value}{a:Option Addr}{cap:Nat}{ρ:Nat->LV}(hs:sub xs lo hi=some ys)(h:ZM T e xs S w v)(hv:v= .slice a xs.length cap)(hρ:(ρ i).v=v):
  (Slot.sub i (lo.toNat*e.n) (hi.toNat - lo.toNat)).ok ρ S w (.slice (if cap=lo.toNat then a else a.map (·.add (lo.toNat*e.n))) (hi.toNat - lo.toNat) (cap - lo.toNat)):=by
 obtain⟨E,F,G,_⟩:=gS hs;have D:xs.length<=cap:=by
  rcases h with⟨rfl,rfl⟩|⟨b,z,A,B,C,rfl,_,_,H,_⟩
  ·simp
  ·simp only[Value.slice.injEq] at hv;omega
 simp only[Slot.ok];rw[hρ,hv];refine⟨⟨_,_,_,rfl⟩,cap - lo.toNat,if cap=lo.toNat then 0 else lo.toNat*e.n,by omega,?_,?_⟩
 ·split
  ·right;omega
  ·exact .inl rfl
 ·split
  ·cases a with
   |none=>rfl
   |some u=>
    have:u.spot=none:=by
     rcases h with⟨rfl,rfl⟩|⟨b,z,A,B,C,rfl,_⟩
     ·cases hv
     ·simp only[Value.slice.injEq,A7] at hv;rw[<-hv.1]
    obtain⟨b,o,q⟩:=u;simp only at this;subst this;rfl
  ·cases a with
   |none=>rfl
   |some u=>
    have:u.spot=none:=by
     rcases h with⟨rfl,rfl⟩|⟨b,z,A,B,C,rfl,_⟩
     ·cases hv
     ·simp only[Value.slice.injEq,A7] at hv;rw[<-hv.1]
    obtain⟨b,o,q⟩:=u;simp only at this;subst this;simp[Tj,Addr.add_lit]
theorem Tv{xs:List α}{xs':Array Operand}{ρ:Nat->LV}{S a w}(K:m7 σ xs' ρ S a w)(hm:x∈xs')(hx:dD σ.g x=some (.ref i))(he:aX σ.d i=some (.arr T e xs)):
  ∃ad cap,a.eval x= .slice ad xs.length cap/\xs.length<=cap/\(ρ i).v= .slice ad xs.length cap/\ZM T e xs S w (ρ i).v:=by
 obtain⟨A,h,_⟩:=yO K hm hx he;have h:ZM T e xs S w (ρ i).v:=h;obtain⟨ad,cap,u⟩:=h.slice;refine⟨ad,cap,by rw[A,u],?_,u,h⟩;rcases h with⟨rfl,z⟩|⟨b,B,C,D,E,z,_,_,F,_⟩
 ·simp
 ·rw[u] at z;simp only[Value.slice.injEq] at z;omega
theorem KY{xs ys:List α}{hi:Int}{k':IntKind}{E:TypeId}(hs:sub xs 0 hi=some ys)(hx:dD σ.g x=some (.ref i))(he:aX σ.d i=some (.arr T e xs))(hz:dD σ.g z=some (.v (Wr.int k') hi))
  (hU:∀w,(underlying U).run F.P w= .ok (.slice E) w) (hE:∀w,(sizeOf E).run F.P w= .ok e.n w):JO F ⟨d,.slice U x none (some z) none,ty,p,af,gd⟩ σ (.sub i ((0:Int).toNat*e.n) (hi.toNat - (0:Int).toNat)) []:=by
 intro ρ S a w K;obtain⟨D,u,A,G,B,C⟩:=Tv K (x:=x) (by simp[Op.operands]) hx he;have h:=(fQ K (x:=z) (by simp[Op.operands]) hz).1;obtain⟨H,s1,I,_⟩:=gS hs;refine VJ.value (w':=w) ?_ (XJ.same (Zw hs C B rfl));simp[execOp,Instr.sliceAt,Instr.slice,A,h,hU,hE,Ha s1 (show hi<=(u:Int) by omega)]
theorem Ld{xs ys:List α}{lo:Int}{k:IntKind}{E:TypeId}(hs:sub xs lo (xs.length:Int)=some ys)(hx:dD σ.g x=some (.ref i))(he:aX σ.d i=some (.arr T e xs))(hy:dD σ.g y=some (.v (Wr.int k) lo))
  (hU:∀w,(underlying U).run F.P w= .ok (.slice E) w) (hE:∀w,(sizeOf E).run F.P w= .ok e.n w):JO F ⟨d,.slice U x (some y) none none,ty,p,af,gd⟩ σ (.sub i (lo.toNat*e.n) ((xs.length:Int).toNat - lo.toNat)) []:=by
 intro ρ S a w K;obtain⟨C,D,u,G,z,A⟩:=Tv K (x:=x) (by simp[Op.operands]) hx he;have h:=(fQ K (x:=y) (by simp[Op.operands]) hy).1;obtain⟨B,s1,H,_⟩:=gS hs;refine VJ.value (w':=w) ?_ (XJ.same (Zw hs A z rfl));simp[execOp,Instr.sliceAt,Instr.slice,u,h,hU,hE,Dc B s1]
end
end Go.Sw
namespace Go.Sw
open Go Go.RowKit
section
variable {F F':WV}{σ:AS}{pb:Option Nat}{s:Slot}{d:Option Tmp}{ty:TypeId}{p:String}{af:Array Edge}{gd:Option (Nat×Bool)}{x y z:Operand}
theorem GA{P:Program}{w:World}{U:TypeId}{a c e:List Value}{n:Nat}{ag:Bool}(hA:∀w,(isAgg U).run P w= .ok ag w)(hS:∀w,(sizeOf U).run P w= .ok n w)(hl:c.length=n)(h1:ag=false->n=1):
  (part U (a++(c++e)).toArray a.length).run P w= .ok (if ag then .agg c.toArray else c.headD undef) w:=by
 unfold part;simp only[Sem.run_bind,hA,Result.andThen_ok];cases ag with
 |true=>
  simp only[ZU,Sem.run_bind,hS,Result.andThen_ok,Sem.run_pure];have:(a++(c++e)).toArray.extract a.length (a.length+n)=c.toArray:=by
   subst hl;rw[List.extract_toArray];congr 1;simp[List.extract]
  rw[this]
 |false=>
  have h:=h1 rfl;rw[h] at hl;obtain⟨v,rfl⟩:=aCf.1 hl;simp
theorem Eg{fn:Func}{VP:List (Nat×VH)}(hF:T7 F F')(y1:fn.results= #[])(hn:y7 VP σ.d):XQ F' σ (zS F fn (.WC []) VP) .normal:=
 fun a w h=>FP hF y1 hn a w h
theorem Z.ZK{u:Value}(h:u.oneCell'=true):∀S w,(Wr.ZK u h).ok () S w [u]:=fun _ _=>rfl
end
end Go.Sw
namespace Go.Sw
open Go Go.RowKit
def Hh{α:Type}(e:Wr α):Wr (List α) where
 n:=1
 agg:=false
 ok xs S w cs:=(Wr.sl e).ok xs S w cs/\∀a l c,cs=[.slice a l c]->l=c
 len h:=(Wr.sl e).len h.1
 one _:=rfl
 cell h:=(Wr.sl e).cell h.1
 mono h k:=⟨(Wr.sl e).mono h.1 k,h.2⟩
theorem KZ{α:Type}{e:Wr α}{xs:List α}{S w u}(h:(Hh e).val xs S w u):(Wr.sl e).val xs S w u/\∀a l c,u= .slice a l c->l=c:=by
 obtain⟨F,⟨C,G⟩,rfl⟩:=h;refine⟨⟨F,C,rfl⟩,?_⟩;obtain⟨a,H,D,_⟩:=C;intro z A c2 B;rw[D] at B;have E:(Value.slice a xs.length H)= .slice z A c2:=B;exact G z A c2 (by rw[D,E])
section
variable {F:WV}{σ:AS}{d:Option Tmp}{ty:TypeId}{p:String}{af:Array Edge}{gd:Option (Nat×Bool)}{x y:Operand}
theorem Zx{α:Type}{e:Wr α}{U E:TypeId}{len:Nat}{z:Value}{ps:List (Nat×Operand)}{zs:List α}(hU:∀w,(underlying U).run F.P w= .ok (.slice E) w)(hS:∀w,(sizeOf E).run F.P w= .ok e.n w)(hz:∀w,(zeroValue E).run F.P w= .ok z w)
  (hle:Nat.ble (len*e.n) 16777216=true) (hl:ps.length=len) (T1:zs.length=len) (hb:Nat.ble len 16777216=true) (he:B0 σ e 0 ps zs):JO F ⟨d,.buildSlice U len ps.toArray,ty,p,af,gd⟩ σ (.v (Hh e) zs) []:=by
 intro ρ S a w K;obtain⟨u,M,N⟩:=Rk (d:=d) (ty:=ty) (p:=p) (af:=af) (gd:=gd) hU hS hz hle hl he K;have A:=lF w (.cells u.toArray E);have C:Ext S (Un S ρ []) w (w.alloc (.cells u.toArray E)):=rJ A fun k _ h=>by
  rcases h with h |⟨i,R,h,_⟩
  ·exact h
  ·simp[aX] at h
 refine VJ.value N ⟨ρ,fun _ _=>rfl,A,?_,⟨fun _ _ h=>by simp[aX] at h,fun _ _ _ h=>by simp[aX] at h,fun _ _ _ _ _ h=>by simp[aX] at h⟩⟩;simp only[Slot.ok];have hb:=w7 hb;have D:(Wr.sl e).val zs (Un S ρ []) (w.alloc (.cells u.toArray E)) (.slice (some ⟨w.heap.size,0,none⟩) len len):=by
  refine sG.2 ⟨_,len,by rw[T1],⟨by omega,by omega⟩,.inr ⟨w.heap.size,0,u,rfl,by simp,?_,Jz w u E,Wr.VN M C⟩⟩;rintro (h |⟨i,R,h,_⟩)
  ·have:=K.low _ h;omega
  ·simp[aX] at h
 obtain⟨O,Q,B⟩:=D;refine⟨O,⟨Q,fun H I c2 L=>?_⟩,B⟩;subst L;have G:(Value.slice (some ⟨w.heap.size,0,none⟩) len len)= .slice H I c2:=B;injection G with _ e1 e2
 omega
theorem Le{α:Type}{e:Wr α}{xs ys zs:List α}{T U:TypeId}{ti:TypeInfo}{zv:Value}(ha:app xs ys=some zs)(YS:xs≠ [])(hx:dD σ.g x=some (.v (Hh e) xs))(hy:Src σ y e ys)
  (hU:∀w,(underlying U).run F.P w= .ok (.slice T) w) (hI:∀w,(typeInfo T).run F.P w= .ok ti w) (hS:∀w,(sizeOf T).run F.P w= .ok e.n w) (hz:ti.zero=some zv) (hzs:zv.cells.size=e.n) (T3:Nat.ble ti.bytes 4096=true):
  JO F ⟨d,.call ⟨.builtin .append,#[x,y],#[U,U]⟩,ty,p,af,gd⟩ σ (.v (Wr.sl e) zs) []:=by
 obtain⟨aa,rfl⟩:=Tr ha;have T3:=w7 T3;intro ρ S a w K;have G:ti.size=e.n:=La hI hS;have H:=K.slot x (by simp[Op.operands,Call.operands]) _ hx;simp only[Slot.ok] at H;obtain⟨D,tc⟩:=KZ H;obtain⟨a1,ai,E,⟨ZI,XN⟩,h2⟩:=sG.1 D;have X:=tc _ _ _ E;subst X;obtain⟨g,Q,z,rfl,aj,am,ab,R⟩:=h2.resolve_left YS;have YK:=cQ R;have I:∀q,q∈#[y]->q∈(Op.call ⟨.builtin .append,#[x,y],#[U,U]⟩).operands:=by
  intro q u;have K7:q=y:=by simpa using u
  subst K7;simp[Op.operands,Call.operands]
 obtain⟨P3,ad,c,h4,h5⟩:=hy ρ S a w ⟨K.low,fun q u s h=>K.slot q (I q u) s h,fun q u s h=>K.y9 q (I q u) s h⟩;have L:∀v w',(Builtin.append_ #[U,U] ty #[.slice (some ⟨g,Q,none⟩) xs.length xs.length,.slice ad ys.length c]).run F.P w= .ok v w'->(execOp a.eval ⟨d,.call ⟨.builtin .append,#[x,y],#[U,U]⟩,ty,p,af,gd⟩).run F.P w= .ok (.value v) w':=by
  intro v w' h;simp[execOp,resolve,invoke,builtin,E,h4,h]
 have M:∀{w':World},lz ρ (Un S ρ []) w w' []:=⟨fun i O h=>by simp[aX] at h,fun i O b h=>by simp[aX] at h,fun i j O ah b h=>by simp[aX] at h⟩;by_cases C:ys=[]
 ·subst C;refine VJ.value (L _ w (tL hU hS (YO _))) ⟨ρ,fun _ _=>rfl,Below.refl _ _,?_,M⟩;simp only[Slot.ok,X1,Un.none];rw[E] at D;exact D
 ·obtain⟨b,ac,A,rfl,hm,V⟩:=h5.resolve_left C;have ae:0<ys.length:=ue.2 C;have ay:=cQ V;have fm:=grownCap_ge w (xs.length+ys.length) xs.length T
  have hr:=run_append_grow (P:=F.P) w U ty T ti zv (qX hU) (uB hI) hz ⟨g,Q,none⟩ xs.length xs.length z (by rw[G];exact YK) ab.cell ⟨b,ac,none⟩ ys.length c A (by rw[G];exact ay) hm.cell (by omega) (by omega) (growslice_fits (by omega) (by
   have:(xs.length+ys.length)*ti.bytes<=4294967296*4096:=aCu aa T3
   omega))
  obtain⟨w',B⟩:∃w',w'=w.drew.alloc (.cells (z.toArray++A.toArray++Builtin.zeroCells zv.cells (grownCap w (xs.length+ys.length) xs.length T - (xs.length+ys.length))) T (0,0)):=⟨_,rfl⟩;have N:Below w.heap.size w w':=by rw[B];exact(Below.refl _ w).drew.alloc (YO _) _
  refine VJ.value (L _ w' (by rw[B];exact hr)) ⟨ρ,fun _ _=>rfl,N,?_,M⟩;simp only[Slot.ok];have hE:Ext S (Un S ρ []) w w':=by rw[Un.none];exact rJ N fun _ _ h=>h
  refine sG.2 ⟨_,_,by rw[sM],⟨by rw[sM];exact fm,by rw[sM];omega⟩,.inr ⟨w.heap.size,0,z++A,rfl,?_,?_,?_,Wr.VN (gI R V) hE⟩⟩
  ·rw[B,World.size_alloc];exact Nat.lt_succ_self _
  ·rw[Un.none];intro h;have:=K.low _ h;omega
  ·have h6:w'.heap[w.heap.size]? =some (.cells ([]++((z++A)++(Builtin.zeroCells zv.cells (grownCap w (xs.length+ys.length) xs.length T - (xs.length+ys.length))).toList)).toArray T (0,0)):=by
    rw[B,show w.heap.size=w.drew.heap.size from rfl,heap_alloc_new];congr 2;apply Array.ext';simp
   have:=(VQ.of_heap h6).sub;simpa using this
end
end Go.Sw
namespace Go.Sw
open Go Go.RowKit
section
variable {P:Program}{α β:Type}
end
end Go.Sw
namespace Go.Sw
open Go Go.RowKit
section
variable {F:WV}{ops:Array Oper}{σ σ' σA:AS}
end
end Go.Sw
namespace Go.Sw
open Go Go.RowKit
structure YZ where
 s:Slot
 nw:List (Nat×VH)
 fr:List (Nat×VH)
 rl:List Nat
 dl:List Nat
inductive XF (F:WV) (ops:Array Oper) (OK:List (Nat×VH)->Prop):List Oper->AS->List YZ->AS->Prop
 |nil {σ:AS}:XF F ops OK [] σ [] σ
 |cons {o:Oper} {os:List Oper} {σ σ':AS} {s:Slot} {new:List (Nat×VH)} {h:List YZ}:GK ops σ.g o true->JO F o σ s new->gN o.dst F.N=true->
   XF F ops OK os ⟨iO o.dst s σ.g,new++σ.d⟩ h σ'->XF F ops OK (o::os) σ (⟨s,new,new,Kq σ.g o,[]⟩::h) σ'
 |left {o:Oper} {os:List Oper} {σ σ':AS} {h:List YZ}:GK ops σ.g o false->gN o.dst F.N=true->XF F ops OK os ⟨iO o.dst .top σ.g,σ.d⟩ h σ'->XF F ops OK (o::os) σ (⟨.top,[],[],Kq σ.g o,[]⟩::h) σ'
 |pu {o:Oper} {os:List Oper} {σ σ':AS} {s:Slot} {h:List YZ}:GK ops σ.g o true->gN o.dst F.N=true->(∀d,OK d->JO F o ⟨σ.g,d⟩ s [])->XF F ops OK os ⟨iO o.dst s σ.g,σ.d⟩ h σ'->XF F ops OK (o::os) σ (⟨s,[],[],[],[]⟩::h) σ'
 |mv {o:Oper} {os:List Oper} {σ σ':AS} {s:Slot} {nw fr:List (Nat×VH)} {dl:List Nat} {h:List YZ}:GK ops σ.g o true->gN o.dst F.N=true->(∀σ2,Loc ops o σ σ2->σ2.free fr=true->JM F o σ2 ⟨iO o.dst s σ2.g,nw++iV σ2.d dl⟩)->
   XF F ops OK os ⟨iO o.dst s σ.g,nw++iV σ.d dl⟩ h σ'->XF F ops OK (o::os) σ (⟨s,nw,fr,Kq σ.g o,dl⟩::h) σ'
 |mvx {o:Oper} {os:List Oper} {σ σ':AS} {s:Slot} {nw fr:List (Nat×VH)} {dl ex:List Nat} {h:List YZ}:GK ops σ.g o true->gN o.dst F.N=true->(∀σ2,Loc ops o σ σ2->(∀l∈ex,aX σ2.d l=aX σ.d l)->σ2.free fr=true->JM F o σ2 ⟨iO o.dst s σ2.g,nw++iV σ2.d dl⟩)->
   XF F ops OK os ⟨iO o.dst s σ.g,nw++iV σ.d dl⟩ h σ'->XF F ops OK (o::os) σ (⟨s,nw,fr,Kq σ.g o++ex,dl⟩::h) σ'
def PB(a b:YZ):Bool:=(a.nw.map (·.1)++a.dl).all fun l=>(!b.rl.contains l && !b.dl.contains l) && b.nw.all fun y=> !Nat.beq y.1 l
def GB(its:List YZ)(ms:List Nat):Bool:=
 (List.range its.length).all fun i=>(List.range its.length).all fun j=>Nat.beq i j || (ms.getD j 0).testBit i || (ms.getD i 0).testBit j ||
  (match its[i]?,its[j]? with | some a,some b=>PB a b | _,_=>true)
def GC(σ:AS)(its:List YZ)(ms:List Nat):Bool:=
 (List.range its.length).all fun j=>match its[j]? with
  |none=>true
  |some b=>b.fr.all fun x=>(σ.g.all fun y=> !y.2.YF.contains x.1) && (σ.d.all fun y=> !Nat.beq y.1 x.1 && !y.2.YF.contains x.1) &&
    (List.range its.length).all fun i=>Nat.beq i j || (ms.getD i 0).testBit j || (match its[i]? with | none=>true | some a=> !a.s.YF.contains x.1 && a.nw.all fun y=> !Nat.beq y.1 x.1 && !y.2.YF.contains x.1)
def Bv(nw:Nat->List (Nat×VH))(dl:Nat->List Nat)(d:List (Nat×VH)):Nat->(Nat->Bool)->List (Nat×VH)
 | 0,_=>d
 |m+1,L=>bif L m then nw m++iV (Bv nw dl d m L) (dl m) else Bv nw dl d m L
section
variable {nw:Nat->List (Nat×VH)}{dl:Nat->List Nat}{d:List (Nat×VH)}
theorem Eh{l:Nat}{L L':Nat->Bool}:∀{m:Nat},(∀i,i<m->(aX (nw i) l≠none\/l∈dl i)->L i=L' i)->aX (Bv nw dl d m L) l=aX (Bv nw dl d m L') l
 | 0,_=>rfl
 |m+1,h=>by
  have z:=Eh (m:=m) (fun i D=>h i (by omega));simp only[Bv];by_cases u:aX (nw m) l=none/\l∉dl m
  ·cases L m<;>cases L' m<;>simp[gJ,u.1,qA,u.2,z]
  ·have C:aX (nw m) l≠none\/l∈dl m:=by
    by_cases A:aX (nw m) l=none
    ·by_cases B:l∈dl m
     ·exact .inr B
     ·exact absurd ⟨A,B⟩ u
    ·exact .inl A
   rw[h m (by omega) C];cases L' m<;>simp[gJ,qA,z]
theorem GD{l j:Nat}{en:VH}{L:Nat->Bool}(hj:aX (nw j) l=some en)(hL:L j=true):∀{m:Nat},j<m->(∀i,j<i->i<m->L i=true->aX (nw i) l=none/\l∉dl i)->aX (Bv nw dl d m L) l=some en
 | 0,h,_=>by omega
 |m+1,h,B=>by
  simp only[Bv];by_cases C:j=m
  ·subst C;rw[hL];simp[gJ,hj]
  ·have z:=GD (m:=m) hj hL (by omega) (fun i u A=>B i u (by omega));cases hLm:L m with
   |false=>simpa using z
   |true=>obtain⟨u,A⟩:=B m (by omega) (by omega) hLm;simp[gJ,u,qA,A,z]
theorem Tw{l j:Nat}{L:Nat->Bool}(hj:aX (nw j) l=none)(hg:l∈dl j)(hL:L j=true):∀{m:Nat},j<m->(∀i,j<i->i<m->L i=true->aX (nw i) l=none/\l∉dl i)->aX (Bv nw dl d m L) l=none
 | 0,h,_=>by omega
 |m+1,h,B=>by
  simp only[Bv];by_cases C:j=m
  ·subst C;rw[hL];simp[gJ,hj,qA,hg]
  ·have z:=Tw (m:=m) hj hg hL (by omega) (fun i u A=>B i u (by omega));cases hLm:L m with
   |false=>simpa using z
   |true=>obtain⟨u,A⟩:=B m (by omega) (by omega) hLm;simp[gJ,u,qA,A,z]
theorem Mi{y:Nat×VH}{i:Nat}:∀{d:List (Nat×VH)},y∈wE d i->y∈d
 | [],h=>by simp[wE] at h
 | (j,u)::r,h=>by
  simp only[wE] at h;cases hb:Nat.beq j i with
  |true=>rw[hb] at h;exact Y8 _ (Mi h)
  |false=>
   rw[hb] at h;rcases m5.1 h with h | h
   ·rw[h];exact Y9
   ·exact Y8 _ (Mi h)
theorem Pu{y:Nat×VH}{d:List (Nat×VH)}:∀{H:List Nat},y∈iV d H->y∈d
 | [],h=>h
 |_::H,h=>Pu (H:=H) (Mi h)
theorem Ru{y:Nat×VH}{L:Nat->Bool}:∀{m:Nat},y∈Bv nw dl d m L->y∈d\/∃i,i<m/\L i=true/\y∈nw i
 | 0,h=> .inl h
 |m+1,h=>by
  simp only[Bv] at h;cases hL:L m with
  |false=>
   rw[hL] at h;rcases Ru (m:=m) h with h |⟨i,z,u⟩
   ·exact .inl h
   ·exact .inr ⟨i,by omega,u⟩
  |true=>
   rw[hL] at h;rcases K9.1 h with h | h
   ·exact .inr ⟨m,by omega,hL,h⟩
   ·rcases Ru (m:=m) (Pu h) with h |⟨i,z,u⟩
    ·exact .inl h
    ·exact .inr ⟨i,by omega,u⟩
theorem Fz{L:Nat->Bool}{m:Nat}:∀{n:Nat},m<=n->(∀i,m<=i->i<n->L i=false)->Bv nw dl d n L=Bv nw dl d m L
 | 0,h,_=>by
  have:m=0:=by omega
  subst this;rfl
 |n+1,h,z=>by
  rcases K3 n m with u | u
  ·have:m=n+1:=by omega
   subst this;rfl
  ·simp only[Bv,z n u (by omega),pF];exact Fz u fun i A B=>z i A (by omega)
theorem Iv{L:Nat->Bool}:∀{m:Nat},Bv nw dl d (m+1) L=Bv (fun i=>nw (i+1)) (fun i=>dl (i+1)) (bif L 0 then nw 0++iV d (dl 0) else d) m (fun i=>L (i+1))
 | 0=>rfl
 |m+1=>by rw[Bv,Iv (m:=m)];rfl
end
section
variable {F:WV}{ops:Array Oper}{OK:List (Nat×VH)->Prop}
structure uk (F:WV) (ops:Array Oper) (OK:List (Nat×VH)->Prop) (dst:Nat->Option Tmp) (its:Nat->YZ) (σ:AS) (n:Nat) (i:Nat) (o:Oper):Prop where
 ok:gN o.dst F.N=true
 cs:(∃ex,(its i).rl=Kq (Bf dst (fun i=>(its i).s) σ.g n (fun k=>decide (k<i))) o++ex/\
  ((GK ops (Bf dst (fun i=>(its i).s) σ.g n (fun k=>decide (k<i))) o true/\(its i).fr=(its i).nw/\(its i).dl=[]/\JO F o ⟨Bf dst (fun i=>(its i).s) σ.g n (fun k=>decide (k<i)),Bv (fun i=>(its i).nw) (fun i=>(its i).dl) σ.d n (fun k=>decide (k<i))⟩ (its i).s (its i).nw)\/
  (GK ops (Bf dst (fun i=>(its i).s) σ.g n (fun k=>decide (k<i))) o false/\(its i).s= .top/\(its i).nw=[]/\(its i).dl=[])\/
  (GK ops (Bf dst (fun i=>(its i).s) σ.g n (fun k=>decide (k<i))) o true/\
   ∀σ2,Loc ops o ⟨Bf dst (fun i=>(its i).s) σ.g n (fun k=>decide (k<i)),Bv (fun i=>(its i).nw) (fun i=>(its i).dl) σ.d n (fun k=>decide (k<i))⟩ σ2->(∀l∈ex,aX σ2.d l=aX (Bv (fun i=>(its i).nw) (fun i=>(its i).dl) σ.d n (fun k=>decide (k<i))) l)->σ2.free (its i).fr=true->JM F o σ2 ⟨iO o.dst (its i).s σ2.g,(its i).nw++iV σ2.d (its i).dl⟩)))\/
  (GK ops (Bf dst (fun i=>(its i).s) σ.g n (fun k=>decide (k<i))) o true/\(its i).nw=[]/\(its i).fr=[]/\(its i).dl=[]/\∀d,OK d->JO F o ⟨Bf dst (fun i=>(its i).s) σ.g n (fun k=>decide (k<i)),d⟩ (its i).s [])
theorem XF.len{os:List Oper}{σ σ':AS}{h:List YZ}(hp:XF F ops OK os σ h σ'):h.length=os.length:=by
 induction hp with
 |nil=>rfl
 |cons _ _ _ _ u=>simp[u]
 |left _ _ _ u=>simp[u]
 |pu _ _ _ _ u=>simp[u]
 |mv _ _ _ _ u=>simp[u]
 |mvx _ _ _ _ u=>simp[u]
theorem XF.at{os:List Oper}{σ σ':AS}{h:List YZ}(hp:XF F ops OK os σ h σ'):
  σ'.g=Bf (fun i=>(os[i]?).bind (·.dst)) (fun i=>(h.getD i ⟨.top,[],[],[],[]⟩).s) σ.g os.length (fun _=>true)/\σ'.d=Bv (fun i=>(h.getD i ⟨.top,[],[],[],[]⟩).nw) (fun i=>(h.getD i ⟨.top,[],[],[],[]⟩).dl) σ.d os.length (fun _=>true)/\
  ∀i o,os[i]? =some o->uk F ops OK (fun i=>(os[i]?).bind (·.dst)) (fun i=>h.getD i ⟨.top,[],[],[],[]⟩) σ os.length i o:=by
 have step:∀{u:Oper} {os:List Oper} {σ σ':AS} {h:List YZ} {it:YZ},
   (σ'.g=Bf (fun i=>(os[i]?).bind (·.dst)) (fun i=>(h.getD i ⟨.top,[],[],[],[]⟩).s) (iO u.dst it.s σ.g) os.length (fun _=>true)/\σ'.d=Bv (fun i=>(h.getD i ⟨.top,[],[],[],[]⟩).nw) (fun i=>(h.getD i ⟨.top,[],[],[],[]⟩).dl) (it.nw++iV σ.d it.dl) os.length (fun _=>true)/\
    ∀i o,os[i]? =some o->uk F ops OK (fun i=>(os[i]?).bind (·.dst)) (fun i=>h.getD i ⟨.top,[],[],[],[]⟩) ⟨iO u.dst it.s σ.g,it.nw++iV σ.d it.dl⟩ os.length i o)->
   uk F ops OK (fun i=>((u::os)[i]?).bind (·.dst)) (fun i=>(it::h).getD i ⟨.top,[],[],[],[]⟩) σ (u::os).length 0 u->
   (σ'.g=Bf (fun i=>((u::os)[i]?).bind (·.dst)) (fun i=>((it::h).getD i ⟨.top,[],[],[],[]⟩).s) σ.g (u::os).length (fun _=>true)/\σ'.d=Bv (fun i=>((it::h).getD i ⟨.top,[],[],[],[]⟩).nw) (fun i=>((it::h).getD i ⟨.top,[],[],[],[]⟩).dl) σ.d (u::os).length (fun _=>true)/\
    ∀i o,(u::os)[i]? =some o->uk F ops OK (fun i=>((u::os)[i]?).bind (·.dst)) (fun i=>(it::h).getD i ⟨.top,[],[],[],[]⟩) σ (u::os).length i o):=by
  rintro u os σ σ' h it ⟨M,N,O⟩ P;refine⟨by rw[M,D2,Iu];rfl,by rw[N,D2,Iv];rfl,fun i o D=>?_⟩;cases i with
  |zero=>simp at D;subst D;exact P
  |succ i=>
   have G:=O i o (by simpa using D);have H:Bf (fun i=>((u::os)[i]?).bind (·.dst)) (fun i=>((it::h).getD i ⟨.top,[],[],[],[]⟩).s) σ.g (u::os).length (fun k=>decide (k<i+1))=
     Bf (fun i=>(os[i]?).bind (·.dst)) (fun i=>(h.getD i ⟨.top,[],[],[],[]⟩).s) (iO u.dst it.s σ.g) os.length (fun k=>decide (k<i)):=by
    rw[D2,Iu];simp
   have I:Bv (fun i=>((it::h).getD i ⟨.top,[],[],[],[]⟩).nw) (fun i=>((it::h).getD i ⟨.top,[],[],[],[]⟩).dl) σ.d (u::os).length (fun k=>decide (k<i+1))=
     Bv (fun i=>(h.getD i ⟨.top,[],[],[],[]⟩).nw) (fun i=>(h.getD i ⟨.top,[],[],[],[]⟩).dl) (it.nw++iV σ.d it.dl) os.length (fun k=>decide (k<i)):=by
    rw[D2,Iv];simp
   refine⟨G.ok,?_⟩;rw[H,I];exact G.cs
 have A:∀{u:Oper} {os:List Oper} {σ:AS} {h:List YZ} {it:YZ},Bf (fun i=>((u::os)[i]?).bind (·.dst)) (fun i=>((it::h).getD i ⟨.top,[],[],[],[]⟩).s) σ.g (u::os).length (fun k=>decide (k<0))=σ.g:=by
  intro u os σ h it;rw[Fy (m:=0) (aEl _) (fun i _ _=>by simp)];rfl
 have B:∀{u:Oper} {os:List Oper} {σ:AS} {h:List YZ} {it:YZ},Bv (fun i=>((it::h).getD i ⟨.top,[],[],[],[]⟩).nw) (fun i=>((it::h).getD i ⟨.top,[],[],[],[]⟩).dl) σ.d (u::os).length (fun k=>decide (k<0))=σ.d:=by
  intro u os σ h it;rw[Fz (m:=0) (aEl _) (fun i _ _=>by simp)];rfl
 induction hp with
 |nil=>exact⟨rfl,rfl,fun i o h=>by simp at h⟩
 |cons g j d _ z=>
  rename_i o os σ σ' s new h _;refine step (it:=⟨s,new,new,Kq σ.g o,[]⟩) z ⟨d,?_⟩;rw[A,B];exact .inl ⟨[],by simp,.inl ⟨g,rfl,rfl,j⟩⟩
 |left g d _ z=>
  rename_i o os σ σ' h _;refine step (it:=⟨.top,[],[],Kq σ.g o,[]⟩) z ⟨d,?_⟩;rw[A,B];exact .inl ⟨[],by simp,.inr (.inl ⟨g,rfl,rfl,rfl⟩)⟩
 |pu g C Q hp z=>
  rename_i o os σ σ' s h;refine step (it:=⟨s,[],[],[],[]⟩) z ⟨C,?_⟩;rw[A,B];exact .inr ⟨g,rfl,rfl,rfl,Q⟩
 |mv g C E hp z=>
  rename_i o os σ σ' s nw fr dl h;refine step (it:=⟨s,nw,fr,Kq σ.g o,dl⟩) z ⟨C,?_⟩;rw[A,B];exact .inl ⟨[],by simp,.inr (.inr ⟨g,fun σ2 K _ L=>E σ2 K L⟩)⟩
 |mvx g C E hp z=>
  rename_i o os σ σ' s nw fr dl ex h;refine step (it:=⟨s,nw,fr,Kq σ.g o++ex,dl⟩) z ⟨C,?_⟩;rw[A,B];exact .inl ⟨ex,rfl,.inr (.inr ⟨g,E⟩)⟩
theorem OD{id:Nat}{ops:Array Oper}{cs:List Code}{σ σ1 σ':AS}{its:List YZ}{Q:Exit->Act->World->Prop}(OK:List (Nat×VH)->Prop)(n:Nat)(ms:List Nat)(hm:F.P.follows .mixedOrders=true)(hp:XF F ops OK (ops.toList.take n) σ its σ1)(ht:J F ops (ops.toList.drop n) σ1 σ')
  (hn:Nat.ble n ops.size=true) (P9:Da ops=true) (xu:Xk ops ms=true) (Y6:He ops n ms=true) (yd:GB its ms=true) (nh:GC σ its ms=true) (hOK:∀L,OK (Bv (fun i=>(its.getD i ⟨.top,[],[],[],[]⟩).nw) (fun i=>(its.getD i ⟨.top,[],[],[],[]⟩).dl) σ.d n L)) (k:W F cs σ' Q):W F (.region id ops true::cs) σ Q:=by
 intro a w hs;have hn:=w7 hn;obtain⟨l1,P4⟩:∃l1,l1=ops.toList.take n:=⟨_,rfl⟩;obtain⟨l2,I8⟩:∃l2,l2=ops.toList.drop n:=⟨_,rfl⟩;rw[<-P4] at hp;rw[<-I8] at ht;have N:ops.toList=l1++l2:=by rw[P4,I8];exact(X2 n ops.toList).symm
 have eg:l1.length=n:=by rw[P4,C0,Z0];exact px hn
 have bq:its.length=n:=by rw[hp.len,eg]
 obtain⟨s1,d1,XY⟩:=hp.at;obtain⟨dst,sw⟩:∃dst:Nat->Option Tmp,dst=fun i=>(l1[i]?).bind (·.dst):=⟨_,rfl⟩;obtain⟨it,sq⟩:∃it:Nat->YZ,it=fun i=>its.getD i ⟨.top,[],[],[],[]⟩:=⟨_,rfl⟩;rw[<-sw,eg] at XY;rw[<-sq] at XY;rw[<-sw,eg] at s1;rw[eg] at d1;have s1:σ1.g=Bf dst (fun i=>(it i).s) σ.g n (fun _=>true):=by rw[s1,sq]
 have d1:σ1.d=Bv (fun i=>(it i).nw) (fun i=>(it i).dl) σ.d n (fun _=>true):=by rw[d1,sq]
 have m9:ops.size=l1.length+l2.length:=by rw[<-Z0,N,sM]
 have ah:∀i:Nat,ops[i]? =(l1++l2)[i]? :=fun i=>by rw[<-N];exact(Array.getElem?_toList).symm
 have a1:∀i,i<n->l1[i]? =ops[i]? :=fun i z=>by rw[ah,aBu (by omega)]
 have ZP:∀i o,i<n->ops[i]? =some o->dst i=o.dst:=fun i o z C=>by rw[sw];show (l1[i]?).bind _=_;rw[a1 i z,C];rfl
 have sg:∀i,i<n->∃o,ops[i]? =some o:=fun i z=>⟨ops[i]'(by omega),aBt (by omega)⟩;have nm:=KX P9 xu;have bd:∀i o,i<n->ops[i]? =some o->uk F ops OK dst it σ n i o:=fun i o z C=>XY i o (by rw[a1 i z];exact C);have lg:∀q,q<n->its[q]? =some (it q):=fun q hq=>by
  rw[sq];simp only[O4];rw[D3 (by omega)];rfl
 have a2:∀i j,i<n->j<n->i≠j->kf ops j i\/kf ops i j\/PB (it i) (it j)=true:=by
  intro i j z B O;have A:=j4.1 (j4.1 yd i (jv.2 (by omega))) j (jv.2 (by omega));simp only[yx] at A;rcases A with ((A | A) | A) | A
  ·exact absurd (s8 A) O
  ·exact .inl (nm _ _ A)
  ·exact .inr (.inl (nm _ _ A))
  ·refine .inr (.inr ?_);rw[lg i z,lg j B] at A;exact A
 have am:∀{a b:YZ} {l:Nat},PB a b=true->(aX a.nw l≠none\/l∈a.dl)->l∉b.rl/\l∉b.dl/\∀y∈b.nw,y.1≠l:=by
  intro a b l h U;have N:l∈a.nw.map (·.1)++a.dl:=by
   rcases U with U | U
   ·obtain⟨e,he⟩:=Option.ne_none_iff_exists'.1 U;exact aDn _ (bh.2 ⟨_,mO he,rfl⟩)
   ·exact List.mem_append_right _ U
  have:=j4.1 h _ N;simp only[D1,pq,j4] at this;refine⟨fun E=>?_,fun E=>?_,fun y hy e=>?_⟩
  ·have D:=this.1.1;simp at D;exact D E
  ·have D:=this.1.2;simp at D;exact D E
  ·have D:=this.2 y hy;rw[e] at D;simp at D
 obtain⟨σL,ie⟩:∃σL:(Nat->Bool)->AS,σL=fun L=>⟨Bf dst (fun i=>(it i).s) σ.g n L,Bv (fun i=>(it i).nw) (fun i=>(it i).dl) σ.d n L⟩:=⟨_,rfl⟩;have a3:∀i o t,i<n->ops[i]? =some o->o.dst=some t->∀j o',j<n->ops[j]? =some o'->(j=i\/o'.dst≠some t)/\(t∈looks ops o'->kf ops j i\/kf ops i j):=by
  intro i o t z C I j o' B R;have A:=j4.1 Y6 i (jv.2 (by omega));simp only[C,WJ z,I] at A;have D:=j4.1 A j (jv.2 B);simp only[R,D1,yx,pq] at D;obtain⟨G,h4⟩:=D;refine⟨G.imp (fun h=>by simpa using h) (fun h=>by simpa using h),fun E=>?_⟩;rcases h4 with (h4 | h4) | h4
  ·simp at h4;exact absurd E h4
  ·exact .inl (nm _ _ h4)
  ·exact .inr (nm _ _ h4)
 have a4:∀{i:Nat} {o:Oper},¬i<n->ops[i]? =some o->∀{j:Nat},j<i->kf ops i j:=by
  intro i o z C j B;have WZ:i<ops.size:=by
   rcases K3 i ops.size with h | h
   ·exact h
   ·simp[zd h] at C
  have A:=j4.1 Y6 i (jv.2 WZ);simp only[C,WA z] at A;exact nm _ _ (j4.1 A j (jv.2 B))
 have a5:∀i o,i<ops.size->ops[i]? =some o->∀j∈Ly o,j<i:=fun i o _ C j B=>Hd P9 C B;have be:∀m o,n<=m->ops[m]? =some o->∀j∈Ly o,j<ops.size/\decide (j<m)=true:=by
  intro m o _ C j B;have WZ:m<ops.size:=by
   rcases K3 m ops.size with h | h
   ·exact h
   ·simp[zd h] at C
  have:=a5 m o WZ C j B;exact⟨by omega,by simpa using this⟩
 have sr:∀L a w,St F (σL L) a w->(∀i,i<n->L i=true)->St F σ1 a w:=by
  intro L a w h ZY;rw[ie] at h;refine St.congr (fun u=>?_) (fun l=>?_) h
  ·rw[s1];exact Ef fun i z _=>by rw[ZY i z]
  ·rw[d1];exact Eh fun i z _=>by rw[ZY i z]
 have bf:∀L a w j o,FG ops L->St F (σL L) a w->j<n->ops[j]? =some o->L j=false->(∀i∈Ly o,L i=true)->∀K:Act->World->Prop,
   (∀a' w',St F (σL fun i=>i==j || L i) a' w'->K a' w')->wpOpIn F.fe 0 F.P ops (Exit.then (run F.fe F.P Q cs) Q) j K a w:=by
  intro L a w j o sx h B C ac a9 K hK;have hA:=bd j o B C;have a6:∀i,kf ops j i->L i=true:=by
   intro i z;cases z with
   |one R I=>rw[C] at R;cases R;exact a9 _ I
   |up R I hr=>rw[C] at R;cases R;exact hr.down sx (a9 _ I)
  have ab:∀i,L i=true->¬kf ops i j:=fun i z E=>by rw[E.down sx z] at ac;cases ac
  have va:∀u∈looks ops o,lk (σL L).g u=lk (Bf dst (fun i=>(it i).s) σ.g n (fun k=>decide (k<j))) u:=by
   intro u hu;rw[ie];refine Ef fun i z I=>?_;obtain⟨oi,ae⟩:=sg i z;rw[ZP i oi z ae] at I;rcases (a3 i oi u z ae I j o B C).2 hu with A | A
   ·have:=A.lt P9;rw[a6 i A];simpa using this
   ·have D:=A.lt P9;have G:L i=false:=by
     cases M:L i with
     |false=>rfl
     |true=>exact absurd A (ab i M)
    rw[G];simp;omega
  obtain⟨σ0,bv,av,ex,au,az⟩:∃σ0:AS,σ0.g=Bf dst (fun i=>(it i).s) σ.g n (fun k=>decide (k<j))/\Loc ops o σ0 (σL L)/\∃ex:List Nat,(∀l∈ex,aX (σL L).d l=aX σ0.d l)/\
    ((GK ops σ0.g o true/\(it j).fr=(it j).nw/\(it j).dl=[]/\JO F o σ0 (it j).s (it j).nw)\/(GK ops σ0.g o false/\(it j).s= .top/\(it j).nw=[]/\(it j).dl=[])\/
     (GK ops σ0.g o true/\∀σ2,Loc ops o σ0 σ2->(∀l∈ex,aX σ2.d l=aX σ0.d l)->σ2.free (it j).fr=true->JM F o σ2 ⟨iO o.dst (it j).s σ2.g,(it j).nw++iV σ2.d (it j).dl⟩)):=by
   rcases hA.cs with⟨ex,M3,az⟩|⟨S,xr,cj,ay,ax⟩
   ·have I:∀l∈(it j).rl,aX (σL L).d l=aX (Bv (fun i=>(it i).nw) (fun i=>(it i).dl) σ.d n (fun k=>decide (k<j))) l:=by
     intro l N;rw[ie];refine Eh fun i z U=>?_;by_cases O:i=j
     ·subst O;rw[ac];simp
     ·rcases a2 i j z B O with A | A | A
      ·have:=A.lt P9;rw[a6 i A];simpa using this
      ·have D:=A.lt P9;have G:L i=false:=by
        cases M:L i with
        |false=>rfl
        |true=>exact absurd A (ab i M)
       rw[G];simp;omega
      ·exact absurd N (am A U).1
    exact⟨⟨Bf dst (fun i=>(it i).s) σ.g n (fun k=>decide (k<j)),Bv (fun i=>(it i).nw) (fun i=>(it i).dl) σ.d n (fun k=>decide (k<j))⟩,rfl,⟨va,fun l N=>I l (by rw[M3];exact aDn _ N)⟩,ex,fun l N=>I l (by rw[M3];exact List.mem_append_right _ N),az⟩
   ·exact⟨⟨Bf dst (fun i=>(it i).s) σ.g n (fun k=>decide (k<j)),(σL L).d⟩,rfl,⟨va,fun l _=>rfl⟩,[],fun l N=>rfl,.inl ⟨S,by rw[cj,xr],ay,by rw[xr];exact ax _ (by rw[ie,sq];exact hOK L)⟩⟩
  have a7:∀l,(aX (it j).nw l≠none\/l∈(it j).dl)->∀i,j<i->i<n->(i==j || L i)=true->aX (it i).nw l=none/\l∉(it i).dl:=by
   intro l N i P5 z M;have O:i≠j:=by omega
   have bg:L i=true:=by simpa[O] using M
   rcases a2 j i B z (fw O) with A | A | A
   ·exact absurd A (ab i bg)
   ·have:=A.lt P9;omega
   ·refine⟨?_,?_⟩
    ·cases hy:aX (it i).nw l with
     |none=>rfl
     |some e=>exact absurd rfl ((am (l:=l) A N).2.2 _ (mO hy))
    ·exact(am (l:=l) A N).2.1
  have jk:∀a' w',St F ⟨iO o.dst (it j).s (σL L).g,(it j).nw++iV (σL L).d (it j).dl⟩ a' w'->St F (σL fun i=>i==j || L i) a' w':=by
   intro a' w' h';rw[ie] at h' ⊢;refine St.congr (fun u=>?_) (fun l=>?_) h'
   ·show lk (Bf _ _ _ _ _) u=lk (iO _ _ (Bf _ _ _ _ _)) u;rw[Hf];split
    ·rename_i I;refine FZ (by rw[ZP j o B C];exact I) (by simp) B fun i z O E=>?_;obtain⟨oi,ae⟩:=sg i z;rw[ZP i oi z ae] at E;rcases (a3 j o u B C I i oi z ae).1 with A | A
     ·exact O A
     ·exact A E
    ·rename_i I;refine Ef fun i z E=>?_;by_cases O:i=j
     ·subst O;rw[ZP i o z C] at E;exact absurd E I
     ·simp[O]
   ·show aX (Bv _ _ _ _ _) l=aX (_++iV (Bv _ _ _ _ _) _) l;rw[gJ];cases U:aX (it j).nw l with
    |some en=>exact GD U (by simp) B (a7 l (.inl (by rw[U];simp)))
    |none=>
     simp only[Option.none_or];rw[qA];by_cases S:l∈(it j).dl
     ·rw[WJ S];exact Tw U S (by simp) B (a7 l (.inr S))
     ·rw[WA S];refine Eh fun i z E=>?_;by_cases O:i=j
      ·subst O;rcases E with E | E
       ·exact absurd U E
       ·exact absurd E S
      ·simp[O]
  have su:AS.free (σL L) (it j).fr=true:=by
   refine j4.2 fun x U=>?_;have h0:=j4.1 nh j (jv.2 (by omega));rw[lg j B] at h0;have A:=j4.1 h0 x U;simp only[D1,j4,yx] at A;obtain⟨⟨A,D⟩,G⟩:=A;have h4:∀i,i<n->L i=true->(!(it i).s.YF.contains x.1)=true/\∀y∈(it i).nw,(!Nat.beq y.1 x.1)=true/\(!y.2.YF.contains x.1)=true:=by
    intro i z M;have V:=G i (jv.2 (by omega));rw[lg i z] at V;rcases V with (V | V) | V
    ·rw[s8 V,ac] at M;cases M
    ·exact absurd (nm _ _ V) (ab i M)
    ·simp only[D1,j4] at V;exact V
   rw[ie];simp only[D1,j4];refine⟨fun y hy=>?_,fun y hy=>?_⟩
   ·rcases Rt hy with V |⟨i,z,M,e⟩
    ·exact A y V
    ·rw[e];exact(h4 i z M).1
   ·rcases Ru hy with V |⟨i,z,M,hy⟩
    ·exact D y V
    ·exact(h4 i z M).2 y hy
  have an:∀b,GK ops σ0.g o b->Region.wanted o (yielded ops a.tmps)=b:=by
   intro b S;obtain⟨⟨ρ,E,ZF⟩,_,_⟩:=h;exact zN (PA S av) fun t s _ ht=>ZF t s ht
  unfold wpOpIn;rw[C];rcases az with⟨S,cj,ay,ax⟩|⟨S,bo,xr,ay⟩|⟨S,ap⟩
  ·simp only[an true S,ZU];obtain⟨⟨ρ,E,ZF⟩,hz,YR⟩:=h;refine(OZ ax av ρ _ a w (cI E ZF _)).wpIn fun v w' hr=>hK _ _ (jk _ _ ?_);rw[cj] at su;have:=St.put E ZF hz YR su hA.ok hr;rw[ay];cases I:o.dst with
   |none=>rw[I] at this;exact this
   |some t=>rw[I] at this;exact this
  ·simp only[an false S,O2,ZW];refine⟨fun _ _=>trivial,hK _ _ (jk _ _ ?_)⟩;obtain⟨⟨ρ,E,ZF⟩,hz,YR⟩:=h;have:=St.put (s:= .top) (new:=[]) (v:=undef) (dst:=o.dst) E ZF hz YR rfl hA.ok Zf;rw[bo,xr,ay];cases I:o.dst with
   |none=>rw[I] at this;exact this
   |some t=>rw[I] at this;exact this
  ·simp only[an true S,ZU];exact(ap (σL L) av au su a w h).wpIn fun v w' h'=>hK _ _ (jk _ _ h')
 have lh:∀(listed:Array Bool) (L:Nat->Bool),listed.size=ops.size->(∀i,i<ops.size->listed.getD i false=L i)->∀i d,i<ops.size->listed.getD i d=L i:=by
  intro listed L H T i d z;have:=T i z;rw[oe] at this ⊢;rw[aBt (by omega)] at this ⊢;simpa using this
 have H6:∀(listed:Array Bool) (L:Nat->Bool),listed.size=ops.size->(∀i,i<ops.size->listed.getD i false=L i)->∀i,i∈Region.ready .any ops listed↔
   (i<ops.size/\L i=false/\∀o,ops[i]? =some o->∀j∈Ly o,j<ops.size/\L j=true):=by
  intro listed L H T i;unfold Region.ready;rw[yw,jv];constructor
  ·rintro⟨A,D⟩;simp only[D1,pq] at D;obtain⟨D,G⟩:=D;rw[lh listed L H T i true A] at D;refine⟨A,D,fun o C j B=>?_⟩;rw[C] at G;simp only[pw,yy] at G;obtain⟨e,he,aw⟩:=aDh.1 B;have yc:e∈o.after:=by simpa using he
   have:=aDz.1 G e yc;split at aw
   ·rename_i hb;cases aw;rw[hb] at this;simp only[lx,Bool.false_or] at this;rcases K3 e.on ops.size with N | N
    ·rw[lh listed L H T _ _ N] at this;exact⟨N,this⟩
    ·rw[oe,zd (by omega)] at this;simp at this
   ·cases aw
  ·rintro⟨A,D,G⟩;refine⟨A,?_⟩;have C:ops[i]? =some ops[i]:=aBt A;simp only[D1,pq,lh listed L H T i true A,D,aEy,C,pw,yy];refine aDz.2 fun e he=>?_;cases hb:Region.binds .any e with
   |false=>rfl
   |true=>
    have:=G _ C e.on (aDh.2 ⟨e,by simpa using he,by simp[hb]⟩);rw[lh listed L H T _ _ this.1,this.2];rfl
 have l8:∀(listed:Array Bool) (L:Nat->Bool) (j:Nat),listed.size=ops.size->j<ops.size->(∀i,i<ops.size->listed.getD i false=L i)->∀i,i<ops.size->(listed.setIfInBounds j true).getD i false=(i==j || L i):=by
  intro listed L j H B T i z;by_cases O:i=j
  ·subst O;simp only[oe,aDi];simp[H,z]
  ·rw[getD_set_ne false (fw O),T i z];simp[O]
 have hB:∀aa m (listed:Array Bool) a w,listed.size=ops.size->(∀i,i<ops.size->listed.getD i false=decide (i<m))->FG ops (fun i=>decide (i<m))->n<=m->m+aa=ops.size->
   wpListIn F.fe 0 F.P ops (Exit.then (run F.fe F.P Q cs) Q) (ops.toList.drop m) a w->wpAnyIn F.fe 0 F.P .any ops (Exit.then (run F.fe F.P Q cs) Q) aa listed a w:=by
  intro aa
  induction aa with
  |zero=>
   intro m listed a w H ad _ ba bn X;refine⟨aD7.2 fun i z=>?_,?_⟩
   ·obtain⟨A,D,_⟩:=(H6 listed _ H ad i).1 z;have:i<m:=by omega
    simp[this] at D
   ·rw[aDy (by rw[Z0];omega)] at X;exact X
  |succ aa ih=>
   intro m listed a w H ad sx ba bn X;have xv:m<ops.size:=by omega
   have bi:ops[m]? =some ops[m]:=aBt xv;have bj:∀i∈Region.ready .any ops listed,i=m:=by
    intro i z;obtain⟨A,D,G⟩:=(H6 listed _ H ad i).1 z;have br:m<=i:=by simpa using D
    rcases K3 m i with WZ | fm
    ·exfalso;have C:ops[i]? =some ops[i]:=aBt A;have YC:=a4 (by omega) C WZ;cases YC with
     |one R B=>rw[C] at R;cases R;have:=(G _ C _ B).2;simp at this
     |up R B a0=>
      rw[C] at R;cases R;have ap:=(G _ C _ B).2;have:=a0.down sx ap;simp at this
    ·omega
   have V7:ops.toList.drop m=ops[m]::ops.toList.drop (m+1):=by
    rw[aCy (by rw[Z0];exact xv)];simp
   rw[V7] at X;refine⟨fun hr=>?_,fun i z=>?_⟩
   ·exfalso;have pc:m∉Region.ready .any ops listed:=by rw[hr];simp
    refine pc ((H6 listed _ H ad m).2 ⟨xv,by simp,fun o C j B=>?_⟩);exact be m o ba C j B
   ·have:=bj i z;subst this;obtain⟨_,_,G⟩:=(H6 listed _ H ad i).1 z;have bl:FG ops (fun k=>decide (k<i+1)):=by
     intro k o hk C j B;have hk:k<i+1:=by simpa using hk
     rcases K3 k i with h | h
     ·have:=sx k o (by simpa using h) C j B;have:j<i:=by simpa using this
      simp;omega
     ·have:k=i:=by omega
      subst this;have:=(G o C j B).2;have:j<k:=by simpa using this
      simp;omega
    have a8:∀a w,wpListIn F.fe 0 F.P ops (Exit.then (run F.fe F.P Q cs) Q) (ops.toList.drop (i+1)) a w->wpAnyIn F.fe 0 F.P .any ops (Exit.then (run F.fe F.P Q cs) Q) aa (listed.setIfInBounds i true) a w:=by
     intro a w X;refine ih (i+1) _ a w (by simpa using H) (fun j B=>?_) bl (by omega) (by omega) X;rw[l8 listed _ i H xv ad j B];by_cases P5:j=i
     ·subst P5;simp
     ·have:(j<i+1)↔j<i:=by omega
      simp[P5,this]
    unfold wpOpIn;rw[bi];unfold wpListIn at X;split at X
    ·rename_i rh;simp only[rh,ZU];exact Oper.wpIn_mono a8 X
    ·rename_i rh;simp only[rh];exact⟨X.1,a8 _ _ X.2⟩
 have hA:∀aa (listed:Array Bool) (L:Nat->Bool) a w,listed.size=ops.size->(∀i,i<ops.size->listed.getD i false=L i)->FG ops L->(∀i,L i=true->i<n)->((List.range ops.size).filter fun i=>L i).length+aa=ops.size->
   St F (σL L) a w->wpAnyIn F.fe 0 F.P .any ops (Exit.then (run F.fe F.P Q cs) Q) aa listed a w:=by
  intro aa
  induction aa with
  |zero=>
   intro listed L a w H T sx ai bb h;have ZY:∀i,i<ops.size->L i=true:=by
    have E:((List.range ops.size).filter fun i=>L i).length=(List.range ops.size).length:=by simpa using bb
    have:=List.length_filter_eq_length_iff.1 E;exact fun i z=>this i (jv.2 z)
   have bs:ops.size=n:=by
    rcases K3 n ops.size with h | h
    ·have:=ai n (ZY n h);omega
    ·omega
   have I8:l2=[]:=fy (by omega);refine⟨aD7.2 fun i z=>?_,?_⟩
   ·obtain⟨A,D,_⟩:=(H6 listed _ H T i).1 z;rw[ZY i A] at D;cases D
   ·have il:=sr L a w h fun i z=>ZY i (by omega);have:=ht (Exit.then (run F.fe F.P Q cs) Q) [] a w il (fun a' w' h'=>wpListIn_nil (k a' w' h'));rw[I8] at this;exact this
  |succ aa ih=>
   intro listed L a w H T sx ai bb h;by_cases ZY:∀i,i<n->L i=true
   ·
    have il:=sr L a w h ZY;have X:=ht (Exit.then (run F.fe F.P Q cs) Q) [] a w il (fun a' w' h'=>wpListIn_nil (k a' w' h'));have aq:L=fun i=>decide (i<n):=by
     funext i;cases M:L i with
     |true=>simp[ai i M]
     |false=>
      rcases K3 i n with h | h
      ·rw[ZY i h] at M;cases M
      ·simp;omega
    have bu:((List.range ops.size).filter fun i=>L i).length=n:=by
     rw[aq];have:ops.size=n+(ops.size - n):=by omega
     rw[this,List.range_add,zh];rw[aC9.2 (by intro i z;simpa using jv.1 z),List.filter_eq_nil_iff.2 (by intro i z;simp at z ⊢;omega)];simp
    refine hB (aa+1) n listed a w H (fun i z=>by rw[T i z,aq]) (by rw[<-aq];exact sx) (YO _) (by omega) ?_;have:ops.toList.drop n=l2:=by rw[N,<-eg];simp
    rw[this];simpa using X
   ·refine⟨fun hr=>?_,fun i z=>?_⟩
    ·exfalso;have au:∃i,i<n/\L i=false:=by
      refine Classical.byContradiction fun ab=>ZY fun i z=>?_;cases M:L i with
      |true=>rfl
      |false=>exact absurd ⟨i,z,M⟩ ab
     obtain⟨i,⟨z,M⟩,C7⟩:∃i,(i<n/\L i=false)/\∀j,j<i->L j=true:=by
      obtain⟨i,z⟩:=au
      induction i using Nat.strongRecOn with
      |_ i bp=>
       by_cases B:∃j,j<i/\L j=false
       ·obtain⟨j,A,D⟩:=B;exact bp j A ⟨by omega,D⟩
       ·refine⟨i,z,fun j iw=>?_⟩;cases ac:L j with
        |true=>rfl
        |false=>exact absurd ⟨j,iw,ac⟩ B
     have pc:i∉Region.ready .any ops listed:=by rw[hr];simp
     refine pc ((H6 listed _ H T i).2 ⟨by omega,M,fun o C j B=>?_⟩);have:=a5 i o (by omega) C j B;exact⟨by omega,C7 j this⟩
    ·obtain⟨A,D,G⟩:=(H6 listed _ H T i).1 z;have C:ops[i]? =some ops[i]:=aBt A;have y3:i<n:=by
      refine Classical.byContradiction fun fm=>ZY fun j B=>?_;have YC:=a4 fm C (j:=j) (by omega);cases YC with
      |one R B=>rw[C] at R;cases R;exact(G _ C _ B).2
      |up R B a0=>rw[C] at R;cases R;exact a0.down sx (G _ C _ B).2
     refine bf L a w i _ sx h y3 C D (fun j B=>(G _ C j B).2) _ fun a' w' h'=>?_;refine ih _ _ a' w' (by simpa using H) (l8 listed L i H A T) ?_ ?_ ?_ h'
     ·intro q o hq bc j B;by_cases af:q=i
      ·subst af;simp[(G o bc j B).2]
      ·have:L q=true:=by simpa[af] using hq
       simp[sx q o this bc j B]
     ·intro q hq;by_cases af:q=i
      ·omega
      ·exact ai q (by simpa[af] using hq)
     ·have:((List.range ops.size).filter fun q=>q==i || L q).length=((List.range ops.size).filter fun q=>L q).length+1:=BY ops.size i L A D;omega
 refine wpIn_region_any hm ?_;refine hA ops.size _ (fun _=>false) a _ (by simp) (fun i z=>by rw[oe,Array.getElem?_replicate,WJ z];rfl) (fun _ _ h=>by cases h) (fun _ h=>by cases h) (by rw[List.filter_eq_nil_iff.2 (fun _ _ h=>by cases h)];simp) ?_;obtain⟨⟨ρ,E,ZF⟩,hz,YR⟩:=hs;have hb:Below w.heap.size w { w with drawn:=w.drawn+1 }:=(Below.refl _ _).drew;obtain⟨N0,hE⟩:=E.below hb;have e0:σL (fun _=>false)=σ:=by
  rw[ie];show (⟨Bf _ _ _ _ _,Bv _ _ _ _ _⟩:AS)=σ;rw[Fy (m:=0) (aEl _) (fun _ _ _=>rfl),Fz (m:=0) (aEl _) (fun _ _ _=>rfl)];rfl
 rw[e0];exact⟨⟨ρ,N0,fun t s kz=>Slot.VE s _ (ZF t s kz) hE (fun _ _=>rfl)⟩,hz,YR⟩
section
variable {os:List Oper}{σ σ':AS}{its:List YZ}{s s0:Slot}{d:Option Tmp}{pb:Option Nat}{ty:TypeId}{p:String}{af:Array Edge}{gd:Option (Nat×Bool)}{x y:Operand}
theorem XF.store{T U:TypeId}{l:List Slot}{i off n:Nat}(g:GK ops σ.g ⟨none,.store U x y,ty,p,af,gd⟩ true)(hx:dD σ.g x=some (.ptr i off))(he:aX σ.d i=some (.box T l pb))(ho:nI l off=some s0)(hy:dD σ.g y=some s)(hp:s.plain=true)(m9:Nat.beq s.sz n=true)(H4:Nat.beq s0.sz n=true)
  (hS:∀w,(sizeOf U).run F.P w= .ok n w) (k:XF F ops OK os ⟨σ.g,(i,.box T (nV l off s) pb)::σ.d⟩ its σ'):
  XF F ops OK (⟨none,.store U x y,ty,p,af,gd⟩::os) σ (⟨.top,[(i,.box T (nV l off s) pb)],[],Kq σ.g ⟨none,.store U x y,ty,p,af,gd⟩,[]⟩::its) σ':=
 .mv g rfl (fun σ2 h _=>Tq ((h.ev (by simp[Op.operands])).trans hx) ((h.y9 (x:=x) (by simp[Op.operands]) hx (by simp[Slot.YF])).trans he) ho ((h.ev (by simp[Op.operands])).trans hy) hp m9 H4 hS) k
theorem XF.storeAll{α:Type}{e:Wr α}{z:α}{T U:TypeId}{l l':List Slot}{i:Nat}(g:GK ops σ.g ⟨none,.store U x y,ty,p,af,gd⟩ true)(hx:dD σ.g x=some (.ptr i 0))(he:aX σ.d i=some (.box T l pb))(hl:Nat.beq (l.map Slot.sz).sum e.n=true)(hy:dD σ.g y=some (.v e z))(T1:K4 l' e z)
  (hS:∀w,(sizeOf U).run F.P w= .ok e.n w) (k:XF F ops OK os ⟨σ.g,(i,.box T l' pb)::σ.d⟩ its σ'):
  XF F ops OK (⟨none,.store U x y,ty,p,af,gd⟩::os) σ (⟨.top,[(i,.box T l' pb)],[],Kq σ.g ⟨none,.store U x y,ty,p,af,gd⟩,[]⟩::its) σ':=
 .mv g rfl (fun σ2 h _=>bX ((h.ev (by simp[Op.operands])).trans hx) ((h.y9 (x:=x) (by simp[Op.operands]) hx (by simp[Slot.YF])).trans he) hl ((h.ev (by simp[Op.operands])).trans hy) T1 hS) k
theorem XF.A1{T U:TypeId}{l l':List Slot}{i n:Nat}(g:GK ops σ.g ⟨none,.store U x y,ty,p,af,gd⟩ true)(hx:dD σ.g x=some (.ptr i 0))(he:aX σ.d i=some (.box T l pb))(hl:(l.map Slot.sz).sum=n)(hy:dD σ.g y=some (.agg l'))(T1:(l'.map Slot.sz).sum=n)(hnt:l'.all Slot.plain=true)
  (hS:∀w,(sizeOf U).run F.P w= .ok n w) (k:XF F ops OK os ⟨σ.g,(i,.box T l' pb)::σ.d⟩ its σ'):
  XF F ops OK (⟨none,.store U x y,ty,p,af,gd⟩::os) σ (⟨.top,[(i,.box T l' pb)],[],Kq σ.g ⟨none,.store U x y,ty,p,af,gd⟩,[]⟩::its) σ':=
 .mv g rfl (fun σ2 h _=>Jw ((h.ev (by simp[Op.operands])).trans hx) ((h.y9 (x:=x) (by simp[Op.operands]) hx (by simp[Slot.YF])).trans he) hl ((h.ev (by simp[Op.operands])).trans hy) T1 hnt hS) k
theorem Src.loc{α:Type}{e:Wr α}{ys:List α}{o:Oper}{σ2:AS}(h:Src σ y e ys)(hL:Loc ops o σ σ2)(hm:y∈o.op.operands):Src σ2 y e ys:=fun ρ S a w K=>
 h ρ S a w ⟨K.low,fun x u s z=>K.slot x u s (by
  have:x=y:=by simpa using u
  subst this;rw[hL.ev hm];exact z),fun x u s z i A B C=>K.y9 x u s (by
   have:x=y:=by simpa using u
   subst this;rw[hL.ev hm];exact z) i A B (by
    have:x=y:=by simpa using u
    subst this;rw[hL.y9 hm z A];exact C)⟩
theorem XF.append{α:Type}{e:Wr α}{xs ys zs:List α}{T U:TypeId}{ti:TypeInfo}{z:Value}{i:Nat}(g:GK ops σ.g ⟨d,.call ⟨.builtin .append,#[x,y],#[U,U]⟩,ty,p,af,gd⟩ true)(j:Nat)(ha:app xs ys=some zs)(hx:dD σ.g x=some (.ref i))(he:aX σ.d i=some (.arr T e xs))(hy:Src σ y e ys)
  (hU:∀w,(underlying U).run F.P w= .ok (.slice T) w) (hI:∀w,(typeInfo T).run F.P w= .ok ti w) (hS:∀w,(sizeOf T).run F.P w= .ok e.n w) (hz:ti.zero=some z) (hzs:z.cells.size=e.n) (T3:Nat.ble ti.bytes 4096=true)
  (_:σ.free [(j,.arr T e zs)]=true) (hd:gN d F.N=true) (k:XF F ops OK os ⟨iO d (.ref j) σ.g,(j,.arr T e zs)::wE σ.d i⟩ its σ'):
  XF F ops OK (⟨d,.call ⟨.builtin .append,#[x,y],#[U,U]⟩,ty,p,af,gd⟩::os) σ (⟨.ref j,[(j,.arr T e zs)],[(j,.arr T e zs)],Kq σ.g ⟨d,.call ⟨.builtin .append,#[x,y],#[U,U]⟩,ty,p,af,gd⟩,[i]⟩::its) σ':=
 .mv (nw:=[(j,.arr T e zs)]) (dl:=[i]) g hd (fun σ2 h u=>bU j ha ((h.ev (by simp[Op.operands,Call.operands])).trans hx) ((h.y9 (x:=x) (by simp[Op.operands,Call.operands]) hx (by simp[Slot.YF])).trans he) (hy.loc h (by simp[Op.operands,Call.operands])) hU hI hS hz hzs T3 u hd) k
end
end
end Go.Sw
namespace Go.Sw
open Go Go.RowKit
section
variable {F:WV}{σ:AS}{pb:Option Nat}{s:Slot}{d:Option Tmp}{ty:TypeId}{p:String}{af:Array Edge}{gd:Option (Nat×Bool)}{x y z:Operand}
theorem XJ.cv{ρ:Nat->LV}{S:Nat->Prop}{w w':World}{v:Value}{s s':Slot}{new H3:List (Nat×VH)}(ZX:∀k,S k->k<w.heap.size)(h:XJ ρ S w s new v w')
  (ZD:∀F:WV,Sub F ⟨[(0,s)],new⟩ ⟨[(0,s')],H3⟩) (YK:kY s' H3=true):XJ ρ S w s' H3 v w':=by
 obtain⟨ρ',h1,C,h3,E⟩:=h;let H:WV:=⟨default,1,S,w,fun _=>False,none,[]⟩
 have R:Core H new ρ' w':=⟨ZX,C.size,fun k V _=>C.block k V,C.os,C.tape,C.output,E.own,fun i u b B z=>⟨.inl (E.fresh i u b B z).1,(E.fresh i u b B z).2⟩,E.inj,
  fun i u b B z X=>by have:=ZX b X;have:=(E.fresh i u b B z).1;omega⟩
 let a:Act:=⟨#[v],[]⟩
 have T:St H ⟨[(0,s)],new⟩ a w':=⟨⟨ρ',R,fun t s1 D=>by
  simp only[lk] at D;cases z:Nat.beq 0 t with
  |true=>have:=s8 z;subst this;simp at D;subst D;exact h3
  |false=>rw[z] at D;cases D⟩,rfl,rfl⟩
 obtain⟨⟨ρ2,K,I⟩,_,_⟩:=ZD H a w' T;have I:s'.ok ρ2 (Un S ρ2 H3) w' v:=I 0 s' rfl;simp only[kY,D1,j4] at YK;let ρ3:Nat->LV:=fun i=>if (aX H3 i).isSome then ρ2 i else ρ i
 have A:∀i u,aX H3 i=some u->ρ3 i=ρ2 i:=fun i u h=>WJ (by rw[h];rfl);have M:∀i,(aX H3 i).isSome=true->ρ3 i=ρ2 i:=fun i h=>WJ h;have U:Un S ρ3 H3=Un S ρ2 H3:=by
  funext k;apply propext;constructor
  ·rintro (h |⟨i,u,G,L⟩)
   ·exact .inl h
   ·exact .inr ⟨i,u,G,by rw[<-A i u G];exact L⟩
  ·rintro (h |⟨i,u,G,L⟩)
   ·exact .inl h
   ·exact .inr ⟨i,u,G,by rw[A i u G];exact L⟩
 have N:Ext (Un S ρ2 H3) (Un S ρ3 H3) w' w':=⟨YO _,fun k _ h=>⟨rfl,by rw[U];exact h⟩⟩;refine⟨ρ3,fun i h=>WA (by rw[h];simp),C,Slot.VE s' v I N (fun i B=>congrArg LV.v (M i (YK.1 i B))),⟨fun i u h=>?_,fun i u b h z=>?_,fun i j u O b h P z Q=>?_⟩⟩
 ·rw[A i u h];exact VH.VE (K.own i u h) N (fun q hq=>congrArg LV.v (M q (YK.2 _ (mO h) q hq))) (fun _ _=>rfl)
 ·rw[A i u h] at z;have:=K.fresh i u b h z;exact⟨this.1.resolve_right (fun h=>h),this.2⟩
 ·rw[A i u h] at z;rw[A j O P] at Q;exact K.inj i j u O b h P z Q
theorem Pv{o:Oper}{s s':Slot}{new H3:List (Nat×VH)}(h:JO F o σ s new)(ZD:∀F:WV,Sub F ⟨[(0,s)],new⟩ ⟨[(0,s')],H3⟩)(YK:kY s' H3=true):JO F o σ s' H3:=by
 intro ρ S a w K;exact(h ρ S a w K).mono fun v z u=>u.cv K.low ZD YK
end
end Go.Sw
namespace Go.Sw
open Go Go.RowKit
section
variable {F:WV}{σ:AS}{pb:Option Nat}{s:Slot}{d:Option Tmp}{ty:TypeId}{p:String}{af:Array Edge}{gd:Option (Nat×Bool)}{x y z:Operand}{α:Type}{e:Wr α}{T U:TypeId}{i:Nat}
theorem ZM.sub{xs ys:List α}{lo hi:Int}{S:Nat->Prop}{w:World}{v:Value}{a:Option Addr}{cap:Nat}(hs:Sw.sub xs lo hi=some ys)(h:ZM T e xs S w v)(hv:v= .slice a xs.length cap):
  ZM T e ys S w (.slice (if cap=lo.toNat then a else a.map (·.add (lo.toNat*e.n))) (hi.toNat - lo.toNat) (cap - lo.toNat)):=by
 obtain⟨U,V,F,rfl⟩:=gS hs;rcases h with⟨rfl,rfl⟩|⟨b,z,A,u,B,rfl,G,H,X,h7,h8⟩
 ·simp only[Value.slice.injEq,T6] at hv;obtain⟨rfl,_,rfl⟩:=hv;have:lo.toNat=0:=by simp at F;omega
  have:hi.toNat=0:=by simp at F;omega
  refine .inl ⟨by simp,?_⟩;simp[*]
 ·simp only[Value.slice.injEq,aEy] at hv;obtain⟨rfl,rfl⟩:=hv;have D:=cQ H;obtain⟨l,O⟩:∃l,l=lo.toNat:=⟨_,rfl⟩;obtain⟨m,P⟩:∃m,m=hi.toNat:=⟨_,rfl⟩;rw[<-O,<-P];have I:l<=m:=by omega
  have K:m<=xs.length:=by omega
  have L:l*e.n<=m*e.n:=ug _ I;have Q:m*e.n<=xs.length*e.n:=ug _ K;have E:((xs.take m).drop l).length=m - l:=by rw[R6,C0];omega
  by_cases C:z=l
  ·rw[WJ C];have R:m - l=0:=by omega
   refine .inr ⟨b,z - l,A,[],u++B,by rw[E],by simpa using G,?_,by omega,?_,by omega⟩
   ·have:(xs.take m).drop l=[]:=fy (by omega);rw[this];rfl
   ·rw[C,Nat.sub_self];simp
  ·rw[WA C];refine .inr ⟨b,z - l,A++u.take (l*e.n),(u.take (m*e.n)).drop (l*e.n),u.drop (m*e.n)++B,?_,?_,vT _ (sQ _ H),by omega,?_,by omega⟩
   ·rw[E];simp only[pw,Addr.add_lit,sM,C0,D];rw[px (by omega)]
   ·rw[G];have:A++(u++B)=A++u.take (l*e.n)++((u.take (m*e.n)).drop (l*e.n)++(u.drop (m*e.n)++B)):=by
     have M:u=u.take (l*e.n)++((u.take (m*e.n)).drop (l*e.n)++u.drop (m*e.n)):=by
      have N:u.take (l*e.n)=(u.take (m*e.n)).take (l*e.n):=by rw[List.take_take,px L]
      rw[<-A8,N,X2,X2]
     conv=>lhs;rw[M]
     simp only[A8]
    rw[this]
   ·simp only[sM,R6,C0,D];rw[px (by omega)];have:(z - l)*e.n+l*e.n=z*e.n:=by rw[<-I6];congr 1;omega
    omega
theorem Zy{ρ:Nat->LV}{a:Act}{w:World}{xs ys:List α}{lo hi:Int}{j:Nat}{ad:Option Addr}{cap:Nat}(hc:Core F σ.d ρ w)(hs:∀t s,lk σ.g t=some s->s.ok ρ (Un F.S0 ρ σ.d) w (a.tmps.getD t undef))(hz:a.tmps.size=F.N)(YR:a.defers=F.df)
  (ZD:Sw.sub xs lo hi=some ys) (he:aX σ.d i=some (.arr T e xs)) (hv:(ρ i).v= .slice ad xs.length cap) (hf:σ.free [(j,.arr T e ys)]=true) (hd:gN d F.N=true):
  St F ⟨iO d (.ref j) σ.g,(j,.arr T e ys)::wE σ.d i⟩ (a.put d (.slice (if cap=lo.toNat then ad else ad.map (·.add (lo.toNat*e.n))) (hi.toNat - lo.toNat) (cap - lo.toNat))) w:=by
 have A:ZM T e xs (Un F.S0 ρ σ.d) w (ρ i).v:=hc.own i _ he;have E:=A.sub ZD hv;refine Zm (u:= .of _) hc hs hz YR he hf hd (g9.refl _ _) (.inl ⟨_,_,_,rfl⟩) rfl (fun b G=>?_) (fun K ρ' H=>E.mono H fun _ _=>rfl);have B:qS (ρ i) b:=by
  left;rw[hv];have z:=pD.1 G;cases ad with
  |none=>simp[YN] at z
  |some q=>
   by_cases C:cap=lo.toNat
   ·rw[WJ C] at z;exact z
   ·rw[WA C] at z;simp only[pw,YN,A7] at z ⊢;rw[<-z];have D:q.spot=none:=by
     rcases A with⟨_,h⟩|⟨I,O,P,Q,R,h,_⟩
     ·rw[hv] at h;cases h
     ·rw[hv] at h;simp only[Value.slice.injEq,A7] at h;rw[h.1]
    obtain⟨I,L,M⟩:=q;simp only at D;subst D;rw[Addr.add_lit]
 exact⟨.inl B,(hc.fresh i _ b he B).2⟩
theorem LA{xs ys:List α}{hi:Int}{k':IntKind}{E:TypeId}(j:Nat)(hs:Sw.sub xs 0 hi=some ys)(hx:dD σ.g x=some (.ref i))(he:aX σ.d i=some (.arr T e xs))(hz:dD σ.g z=some (.v (Wr.int k') hi))
  (hU:∀w,(underlying U).run F.P w= .ok (.slice E) w) (hE:∀w,(sizeOf E).run F.P w= .ok e.n w) (hf:σ.free [(j,.arr T e ys)]=true) (hd:gN d F.N=true):JM F ⟨d,.slice U x none (some z) none,ty,p,af,gd⟩ σ ⟨iO d (.ref j) σ.g,(j,.arr T e ys)::wE σ.d i⟩:=by
 rintro a w ⟨⟨ρ,h,u⟩,G,H⟩;have K:=cI h u (Op.slice U x none (some z) none).operands;obtain⟨I,B,C,L,D,M⟩:=Tv K (x:=x) (by simp[Op.operands]) hx he;have A:=(fQ K (x:=z) (by simp[Op.operands]) hz).1;obtain⟨O,s1,Q,_⟩:=gS hs;refine VJ.value (w':=w) ?_ (Zy h u G H hs he D hf hd);simp[execOp,Instr.sliceAt,Instr.slice,C,A,hU,hE,Ha s1 (show hi<=(B:Int) by omega)]
theorem LC{xs ys:List α}{lo:Int}{k:IntKind}{E:TypeId}(j:Nat)(hs:Sw.sub xs lo (xs.length:Int)=some ys)(hx:dD σ.g x=some (.ref i))(he:aX σ.d i=some (.arr T e xs))(hy:dD σ.g y=some (.v (Wr.int k) lo))
  (hU:∀w,(underlying U).run F.P w= .ok (.slice E) w) (hE:∀w,(sizeOf E).run F.P w= .ok e.n w) (hf:σ.free [(j,.arr T e ys)]=true) (hd:gN d F.N=true):JM F ⟨d,.slice U x (some y) none none,ty,p,af,gd⟩ σ ⟨iO d (.ref j) σ.g,(j,.arr T e ys)::wE σ.d i⟩:=by
 rintro a w ⟨⟨ρ,h,u⟩,D,G⟩;have K:=cI h u (Op.slice U x (some y) none none).operands;obtain⟨H,I,A,L,B,M⟩:=Tv K (x:=x) (by simp[Op.operands]) hx he;have z:=(fQ K (x:=y) (by simp[Op.operands]) hy).1;obtain⟨C,s1,O,_⟩:=gS hs;refine VJ.value (w':=w) ?_ (Zy h u D G hs he B hf hd);simp[execOp,Instr.sliceAt,Instr.slice,A,z,hU,hE,Dc C s1]
theorem Ei{zc:Array Value}{zv:α}{S:Nat->Prop}{w:World}(h:e.ok zv S w zc.toList):∀(n:Nat) (L:List Value),L.length=n*e.n->(∀i,i<n*e.n->L[i]? =some zc[i % zc.size]!)->e.YU (List.replicate n zv) S w L
 | 0,L,u,_=>by simp at u;subst u;rfl
 |n+1,L,u,z=>by
  have B:zc.size=e.n:=by have:=e.len h;simpa using this
  rw[I6,po] at u z;have C:L.take e.n=zc.toList:=by
   apply yz;intro i;by_cases A:i<e.n
   ·rw[List.getElem?_take_of_lt A,z i (by omega),N2 (by omega)];rw[getElem!_pos zc i (by omega)];simp[show i<zc.size by omega]
   ·rw[X3 (by rw[C0];omega),X3 (by simp;omega)]
  refine⟨L.take e.n,L.drop e.n,(X2 _ _).symm,by rw[C];exact h,Ei h n _ (by rw[R6];omega) fun i A=>?_⟩;rw[List.getElem?_drop,z _ (by omega),B,Nat.add_mod_left]
theorem Bg{zc:Array Value}{n i:Nat}(h:i<n*zc.size):(Builtin.zeroCells zc n).toList[i]? =some zc[i % zc.size]! :=by
 simp[Builtin.zeroCells,h]
theorem Xl{xs ys:List α}{lo:Int}{z0:Value}{zv:α}{E:TypeId}(hs:Sw.sub xs lo (xs.length:Int)=some ys)(hx:dD σ.g x=some (.sub i (lo.toNat*e.n) ((xs.length:Int).toNat - lo.toNat)))(he:aX σ.d i=some (.arr T e xs))
  (hU:∀w,(underlying U).run F.P w= .ok (.slice E) w) (hZ:∀w,(zeroValue E).run F.P w= .ok z0 w) (hz:∀S w,e.ok zv S w z0.cells.toList):
  JM F ⟨none,.call ⟨.builtin .clear,#[x],#[U]⟩,ty,p,af,gd⟩ σ ⟨σ.g,(i,.arr T e (xs.take lo.toNat++List.replicate (xs.length - lo.toNat) zv))::σ.d⟩:=by
 rintro a w ⟨⟨ρ,Q,R⟩,m9,YR⟩;have K:=cI Q R (Op.call ⟨.builtin .clear,#[x],#[U]⟩).operands;have X:=K.slot x (by simp[Op.operands,Call.operands]) _ hx;simp only[Slot.ok] at X;obtain⟨_,c,o,g1,N,H⟩:=X;have F5:ZM T e xs (Un F.S0 ρ σ.d) w (ρ i).v:=(K.y9 x (by simp[Op.operands,Call.operands]) _ hx i (by simp[Slot.YF]) _ he).1;obtain⟨s0,s1,_,_⟩:=gS hs;obtain⟨l,hl⟩:∃l,l=lo.toNat:=⟨_,rfl⟩;simp only[m6] at g1 N H;rw[<-hl] at g1 N H ⊢;have ad:l<=xs.length:=by omega
 have done:∀w',(execOp a.eval ⟨none,.call ⟨.builtin .clear,#[x],#[U]⟩,ty,p,af,gd⟩).run F.P w= .ok (.value (.tuple #[])) w'->
   (∃b,qS (ρ i) b/\Z1 b w w'/\(Ext (Un F.S0 ρ σ.d) (Un F.S0 ρ σ.d) w w'->(VH.arr T e (xs.take l++List.replicate (xs.length - l) zv)).ok ρ (Un F.S0 ρ σ.d) w' (ρ i)))\/(w'=w/\xs.take l++List.replicate (xs.length - l) zv=xs)->
   VJ F.P ⟨none,.call ⟨.builtin .clear,#[x],#[U]⟩,ty,p,af,gd⟩ a w fun v w'=>St F ⟨σ.g,(i,.arr T e (xs.take l++List.replicate (xs.length - l) zv))::σ.d⟩ (a.put none v) w':=by
  intro w' hr h;refine VJ.value hr ?_;rcases h with⟨b,h1,V,D⟩|⟨rfl,V⟩
  ·obtain⟨q1,q2⟩:=Q.upd he h1 V D;exact⟨⟨ρ,q1,fun t s L=>Slot.VE s _ (R t s L) q2 (fun _ _=>rfl)⟩,m9,YR⟩
  ·rw[V];refine St.congr (σ:=σ) (fun _=>rfl) (fun q=>?_) ⟨⟨ρ,Q,R⟩,m9,YR⟩;rw[cK];split
   ·rename_i h;subst h;exact he.symm
   ·rfl
 by_cases B:xs.length - l=0
 ·refine done w ?_ (.inr ⟨rfl,?_⟩)
  ·have A:∃q,a.eval x= .slice q 0 c:=by
    rw[H,B];rcases F5 with⟨_,h⟩|⟨b,ab,u,z,post,h,_⟩<;>rw[h]<;>exact⟨_,rfl⟩
   obtain⟨q,A⟩:=A;have C:(Builtin.clear_ #[U] ty #[.slice q 0 c]).run F.P w= .ok (.tuple #[]) w:=by
    cases q<;>simp[Builtin.clear_,hU]
   simp[execOp,resolve,invoke,builtin,A,C]
  ·have:l=xs.length:=by omega
   rw[B,this];simp
 ·have ho:o=l*e.n:=N.resolve_right B;subst ho;rcases F5 with⟨rfl,h⟩|⟨b,ab,u,z,post,D,h4,h5,h6,h7,h8⟩
  ·simp at B
  ·have C:=cQ h5;have A:a.eval x= .slice (some ⟨b,u.length+l*e.n,none⟩) (xs.length - l) c:=by rw[H,D];rfl
   obtain⟨n,ac⟩:∃n,n=xs.length - l:=⟨_,rfl⟩;rw[<-ac] at A B done ⊢;have mq:z0.cells.size=e.n:=by have:=e.len (hz (fun _=>False) w);simpa using this
   obtain⟨news,O⟩:∃news,news=(Builtin.zeroCells z0.cells n).toList:=⟨_,rfl⟩;have G:news.length=n*e.n:=by rw[O,Z0,size_zeroCells,mq]
   have aa:∀S w,e.YU (List.replicate n zv) S w news:=fun S w=>Ei (hz S w) n news G fun i hi=>by rw[O];exact Bg (by rw[mq];exact hi)
   have A4:=rI (aa (fun _=>False) w);have ae:l*e.n+n*e.n=z.length:=by rw[C,<-I6];congr 1;omega
   have e1:u++(z++post)=(u++z.take (l*e.n))++(z.drop (l*e.n)++post):=by
    rw[A8,<-A8 (z.take _),X2]
   have M7:u.length+l*e.n+news.length<=(u++(z++post)).length:=by simp only[sM,G];omega
   have I:=run_storeCells_at F.P b (u.length+l*e.n) T news 0 (u++(z++post)).toArray w h4 (by simpa using M7) A4;have L:(u++(z++post)).take (u.length+l*e.n)=u++z.take (l*e.n):=by
    have M:(u++z.take (l*e.n)).length=u.length+l*e.n:=by rw[sM,C0];omega
    rw[e1,<-M];exact yv
   have V7:(u++(z++post)).drop (u.length+l*e.n+news.length)=post:=by
    have M:(u++z).length=u.length+l*e.n+news.length:=by rw[sM,G];omega
    rw[<-A8,<-M];exact pv
   simp only[aDg,List.toList_toArray] at I;rw[L,V7] at I;refine done (w.setRow b (u++z.take (l*e.n)++news++post).toArray) ?_ (.inl ⟨b,.inl (by rw[D];rfl),Z1.setRow w b _,fun hE=> .inr ⟨b,ab,u,z.take (l*e.n)++news,post,?_,?_,gI (Wr.VN (sQ l h5) hE) (aa _ _),?_,?_,?_⟩⟩)
   ·have C:(Builtin.clear_ #[U] ty #[.slice (some ⟨b,u.length+l*e.n,none⟩) n c]).run F.P w= .ok (.tuple #[]) (w.setRow b (u++z.take (l*e.n)++news++post).toArray):=by
     obtain⟨n',rfl⟩:∃n',n=n'+1:=⟨n - 1,by omega⟩;simp[Builtin.clear_,hU,hZ,<-O,I]
    simp[execOp,resolve,invoke,builtin,A,C]
   ·rw[D];simp only[sM,C0,oc];congr 1;omega
   ·have:=setRow_heap w b _ (u++z.take (l*e.n)++news++post).toArray T _ h4;rw[this];congr 3;simp
   ·simp only[sM,C0,oc];omega
   ·simp only[sM,C0,G];rw[px (by omega)];omega
   ·simp only[sM,C0,oc];omega
end
end Go.Sw
namespace Go.Sw
open Go Go.RowKit
def Wr.B2{α:Type}(e:Wr α):Wr (Option α) where
 n:=1
 agg:=false
 ok x S w cs:=match x with
  |none=>cs=[.pointer none]
  |some z=>∃b u A,cs=[.pointer (some ⟨b,u,none⟩)]/\b<w.heap.size/\¬S b/\VQ w b u A/\e.ok z S w A
 len {x _ _ _} h:=by
  cases x with
  |none=>rw[h];rfl
  |some z=>obtain⟨_,_,_,h,_⟩:=h;rw[h];rfl
 one _:=rfl
 cell {x _ _ _} h c hc:=by
  cases x with
  |none=>rw[h] at hc;simp at hc;subst hc;rfl
  |some z=>obtain⟨_,_,_,h,_⟩:=h;rw[h] at hc;simp at hc;subst hc;rfl
 mono {x _ _ _ _ _} h k:=by
  cases x with
  |none=>exact h
  |some z=>
   obtain⟨b,u,A,D,B,C,E,F⟩:=h;exact⟨b,u,A,D,O3 B k.size,(k.F4 b B C).2,E.mono B C k,e.mono F k⟩
theorem Hi{α:Type}{e:Wr α}{S w u}:(Wr.B2 e).val none S w u↔u= .pointer none:=by
 constructor
 ·rintro⟨z,h,rfl⟩;simp only[Wr.B2] at h;subst h;rfl
 ·rintro rfl;exact⟨[.pointer none],rfl,rfl⟩
theorem Bh{α:Type}{e:Wr α}{z:α}{S w u}:(Wr.B2 e).val (some z) S w u↔∃b off ds,u= .pointer (some ⟨b,off,none⟩)/\b<w.heap.size/\¬S b/\VQ w b off ds/\e.ok z S w ds:=by
 constructor
 ·rintro⟨A,⟨b,off,ds,rfl,h⟩,rfl⟩;exact⟨b,off,ds,rfl,h⟩
 ·rintro⟨b,off,ds,rfl,h⟩;exact⟨[.pointer (some ⟨b,off,none⟩)],⟨b,off,ds,rfl,h⟩,rfl⟩
section
variable {F:WV}{σ:AS}{pb:Option Nat}{s:Slot}{d:Option Tmp}{ty:TypeId}{p:String}{af:Array Edge}{gd:Option (Nat×Bool)}{x y z:Operand}{α:Type}{e:Wr α}
theorem Z.B2(e:Wr α):∀S w,(Wr.B2 e).ok none S w [.pointer none]:=fun _ _=>rfl
theorem LD{v:α}{ρ S w u}(h:(Slot.XR e v).ok ρ S w u):(Slot.v (Wr.B2 e) (some v)).ok ρ S w u:=by
 simp only[Slot.ok] at h ⊢;exact Bh.2 h
theorem Zz{o:Oper}{v:α}{new:List (Nat×VH)}(h:JO F o σ (.XR e v) new):JO F o σ (.v (Wr.B2 e) (some v)) new:=by
 intro ρ S a w K;refine(h ρ S a w K).mono ?_;rintro u D ⟨ρ',z,A,B,C⟩;exact⟨ρ',z,A,LD B,C⟩
theorem jV(e:Wr α):JO F ⟨d,.assign (.const (.pointer none)),ty,p,af,gd⟩ σ (.v (Wr.B2 e) none) []:=by
 intro ρ S a w K;exact VJ.value (w':=w) (v:= .pointer none) (by simp[execOp,Act.eval]) (XJ.same (by simp only[Slot.ok];exact Hi.2 rfl))
theorem Iw{v:Option α}{v':α}(hv:v=some v')(hx:dD σ.g x=some (.v (Wr.B2 e) v)):JO F ⟨d,.nilCheck x,ty,p,af,gd⟩ σ (.XR e v') []:=by
 subst hv;intro ρ S a w K;have h:=K.slot x (by simp[Op.operands]) _ hx;simp only[Slot.ok] at h;obtain⟨b,z,A,u,B⟩:=Bh.1 h;refine VJ.value (w':=w) (v:=a.eval x) ?_ (XJ.same (by simp only[Slot.ok];exact⟨b,z,A,u,B⟩));simp[execOp,u]
theorem Hj{P:Program}(w:World)(T E:TypeId)(ad:Option Addr)(hT:∀w,(underlying T).run P w= .ok (.pointer E) w):(Op.equal T (.pointer ad) (.pointer none)).run P w= .ok ad.isNone w:=by
 unfold Op.equal Op.maxDepth Op.equalIn;cases ad<;>simp[hT]
theorem LF{v:Option α}{T T' E:TypeId}(hx:dD σ.g x=some (.v (Wr.B2 e) v))(hT:∀w,(underlying T).run F.P w= .ok (.pointer E) w):JO F ⟨d,.binOp .neq T x (.const (.pointer none)) T',ty,p,af,gd⟩ σ (.v Wr.bool v.isSome) []:=by
 intro ρ S a w K;have h:=K.slot x (by simp[Op.operands]) _ hx;simp only[Slot.ok] at h;obtain⟨u,A,C⟩:∃u,a.eval x= .pointer u/\(!u.isNone)=v.isSome:=by
  cases v with
  |none=>exact⟨none,Hi.1 h,rfl⟩
  |some z=>obtain⟨b,D,G,A,_⟩:=Bh.1 h;exact⟨_,A,rfl⟩
 have B:=Hj (P:=F.P) w T E u hT;refine VJ.value (w':=w) (v:= .bool v.isSome) ?_ (XJ.same (pE _ ρ S w));rw[<-C];exact BX (r:=u.isNone) (.inr ⟨rfl,rfl⟩) A rfl (by intros;simp) (by intros;simp) (by intros;simp) (by intros;simp) (by simp[eqGuard,Act.eval]) B
theorem LG{zs:List α}{v:α}{U E:TypeId}{len:Nat}{k:IntKind}{n:Int}(hz:Sw.idx zs n=some v)(hx:dD σ.g x=some (.v (Wr.arr len e) zs))(hy:dD σ.g y=some (.v (Wr.int k) n))
  (hU:∀w,(underlying U).run F.P w= .ok (.array len E) w) (hE:∀w,(sizeOf E).run F.P w= .ok e.n w) (hA:∀w,(isAgg E).run F.P w= .ok e.agg w):JO F ⟨d,.index U x y,ty,p,af,gd⟩ σ (.v e v) []:=by
 intro ρ S a w K;have h:=K.slot x (by simp[Op.operands]) _ hx;simp only[Slot.ok] at h;obtain⟨N,⟨O,G⟩,H⟩:=h;have B:=(fQ K (x:=y) (by simp[Op.operands]) hy).1;obtain⟨I,Q,L⟩:=dG hz;obtain⟨z,c,b,rfl,M,A,_⟩:=qT G L;have u:=GA (P:=F.P) (w:=w) (U:=E) (a:=z) (c:=c) (e:=b) hA hE (e.len A) e.one;refine VJ.value (w':=w) (v:=e.pk c) ?_ (XJ.same (by simp only[Slot.ok];exact⟨c,A,rfl⟩));have C:0<=n/\n<(len:Int):=⟨I,by omega⟩;rw[M] at u;have D:a.eval x= .agg (z++(c++b)).toArray:=H;simp only[execOp,D,B,Instr.index];simp[asIntOf,hU,C,hE,u,Wr.pk]
theorem B0.aMj{k:Nat}{ps:List (Nat×Operand)}{zs:List α}(h:B0 σ e k ps zs){ρ S a w}{ys:Array Operand}(Z9:∀x∈ps.map (·.2),x∈ys)(K:m7 σ ys ρ S a w):
  ∀pre rest tl:List Value,pre.length=k*e.n->rest.length=ps.length*e.n->∃ds:List Value,Instr.fill (fun i=>some (i*e.n,e.n)) (pre++(rest++tl)).toArray (ps.map fun q=>(q.1,a.eval q.2))=some (pre++(ds++tl)).toArray/\e.YU zs S w ds:=by
 induction h with
 |nil=>intro pre rest tl D E;simp at E;subst E;exact⟨[],rfl,rfl⟩
 |cons D _ L=>
  rename_i k x z ps zs _;intro pre rest tl F G
  have C:=D ρ S a w ⟨K.low,fun y u s h=>K.slot y (Z9 y (by
   have:y=x:=by simpa using u
   subst this;simp)) s h,fun y u s h=>K.y9 y (Z9 y (by
    have:y=x:=by simpa using u
    subst this;simp)) s h⟩
  simp only[O2,ZW] at C;have A:=qV (s:= .v e z) rfl C;simp only[Slot.YW] at A;have B:=e.len A;simp only[D2,I6,po] at G;obtain⟨ds,H,I⟩:=L (fun y u=>Z9 y (by simp only[E5,m5];exact .inr u)) (pre++(a.eval x).cells.toList) (rest.drop e.n) tl (by rw[sM,F,B,I6,po]) (by rw[R6];omega);refine⟨(a.eval x).cells.toList++ds,?_,⟨_,_,rfl,A,I⟩⟩;rw[E5,Ea (a:=pre) (c:=rest.take e.n) (e:=rest.drop e.n++tl) rfl (by simp only[Z0] at B;exact B) (by simp only[List.toList_toArray];rw[<-A8 (rest.take _),X2]) F (by rw[C0];omega)];simpa[A8] using H
theorem Mj{T E:TypeId}{n:Nat}{ti tE:TypeInfo}{z:Value}{zv:α}{ps:List (Nat×Operand)}{zs:List α}(hI:∀w,(typeInfo T).run F.P w= .ok ti w)(hU:∀w,(underlying T).run F.P w= .ok (.array n E) w)(hE:∀w,(typeInfo E).run F.P w= .ok tE w)(hs:tE.size=e.n)(hz:ti.zero=some z)
  (dy:∀S w,(Wr.arr n e).ok (List.replicate n zv) S w z.cells.toList) (hl:ps.length=zs.length) (hle:Nat.ble zs.length n=true) (he:B0 σ e 0 ps zs):JO F ⟨d,.build T ps.toArray,ty,p,af,gd⟩ σ (.v (Wr.arr n e) (zs++List.replicate (n - zs.length) zv)) []:=by
 intro ρ S a w K;have hle:=w7 hle;obtain⟨L,u⟩:=dy S w;have C:=cQ u;simp only[oc] at C;have I:zs.length*e.n<=n*e.n:=ug _ hle;obtain⟨A,B,H⟩:=he.aMj (ys:=(Op.build T ps.toArray).operands) (by intro x h;simp[Op.operands] at h ⊢;exact h) K [] (z.cells.toList.take (zs.length*e.n)) (z.cells.toList.drop (zs.length*e.n)) (by simp) (by rw[C0,hl];omega);rw[X2] at B;have D:e.YU (List.replicate (n - zs.length) zv) S w (z.cells.toList.drop (zs.length*e.n)):=by
  have:=vT zs.length u
  rwa [List.drop_replicate] at this
 refine VJ.value (w':=w) (v:= .agg (A++z.cells.toList.drop (zs.length*e.n)).toArray) ?_ (XJ.same (by simp only[Slot.ok];exact⟨_,⟨by simp only[sM,oc];omega,gI H D⟩,rfl⟩));have G:F.P.built T (ps.map fun q=>(q.1,a.eval q.2))=some (A++z.cells.toList.drop (zs.length*e.n)).toArray:=by
  unfold Program.built;rw[uB hI,qX hU];simp only[hz,uB hE,hs];simpa using B
 have:=run_build (P:=F.P) w T (ps.map fun q=>(q.1,a.eval q.2)).toArray _ (by simpa using G);simp only[execOp,aDa];simp[this]
end
end Go.Sw
namespace Go.Sw
open Go Go.RowKit
inductive Z2 (α:Type) where
 |rows (xs:List α)
 |any (n:Nat)
def Z2.ok{α:Type}(e:Wr α)(S:Nat->Prop)(w:World):Z2 α->List Value->Prop
 | .rows xs,h=>e.YU xs S w h
 | .any n,h=>h.length=n
def Z2.YU{α:Type}(e:Wr α)(S:Nat->Prop)(w:World):List (Z2 α)->List Value->Prop
 | [],h=>h=[]
 |s::r,h=>∃c d,h=c++d/\s.ok e S w c/\Z2.YU e S w r d
section
variable {α:Type}{e:Wr α}{S S':Nat->Prop}{w w':World}
theorem Z2.VE{s:Z2 α}{cs}(h:s.ok e S w cs)(k:Ext S S' w w'):s.ok e S' w' cs:=by
 cases s with
 |rows xs=>exact Wr.VN h k
 |any n=>exact h
theorem Z2.VN:∀{q:List (Z2 α)} {cs},Z2.YU e S w q cs->Ext S S' w w'->Z2.YU e S' w' q cs
 | [],_,h,_=>h
 |_::_,_,⟨c,d,u,z,A⟩,k=>⟨c,d,u,Z2.VE z k,Z2.VN A k⟩
end
def DE.J4{α:Type}(T:TypeId)(e:Wr α)(b:Nat):DE (List (Z2 α)) where
 ok q S w u _:=u.v= .pointer (some ⟨b,0,none⟩)/\∃h,w.heap[b]? =some (.cells h.toArray T (0,0))/\Z2.YU e S w q h
 mono:=by
  rintro q S E w F u l ⟨z,h,A,B⟩ C D;exact⟨z,h,by rw[D b (.inl (by rw[z];rfl))];exact A,Z2.VN B C⟩
section
variable {F:WV}{σ:AS}{pb:Option Nat}{s:Slot}{d:Option Tmp}{ty:TypeId}{p:String}{af:Array Edge}{gd:Option (Nat×Bool)}{x y z:Operand}{α:Type}{e:Wr α}{T U:TypeId}{i b:Nat}
theorem Pw{cs:List Code}{Q:Exit->Act->World->Prop}{t:Nat}{g':List (Nat×Slot)}{A B:List α}(hσ:σ.d=[(i,.arr T e (A++B))])(hB:B≠ [])(hx:lk σ.g t=some (.ref i))(hg:di σ.g g')(hl:g'.all (fun y=>y.2.YF.isEmpty)=true)
  (k:∀b p q c,(A++B).length<=c->c*e.n<=(A++B).length*e.n+q->(A++B).length<=140737488355328->
   W F cs ⟨(t,.r8 i p 0 (A++B).length c)::g',[(i,.dp (DE.J4 T e b) [.any p,.rows A,.rows B,.any q] [])]⟩ Q):W F cs σ Q:=by
 obtain⟨g,dd⟩:=σ;simp only at hσ hx hg;subst hσ;rintro a w ⟨⟨ρ,N,O⟩,hz,YR⟩;have L:aX [(i,VH.arr T e (A++B))] i=some (.arr T e (A++B)):=by simp[aX]
 have S:ZM T e (A++B) (Un F.S0 ρ [(i,.arr T e (A++B))]) w (ρ i).v:=N.own i _ L;rcases S with⟨h,_⟩|⟨b,ab,K,ad,G,P,h2,R,h4,h5,h6⟩
 ·simp at h;exact absurd h.2 hB
 have YK:=cQ R;refine k b K.length G.length ab h4 (by omega) h6 a w ?_;let ρ':Nat->LV:=fun l=>if l=i then .of (.pointer (some ⟨b,0,none⟩)) else ρ l
 have H:ρ' i= .of (.pointer (some ⟨b,0,none⟩)):=WJ rfl;have I:∀l z,aX [(i,VH.dp (DE.J4 T e b) [.any K.length,.rows A,.rows B,.any G.length] [])] l=some z->l=i:=by
  intro l z h;rw[cK] at h;split at h
  ·rename_i C;exact C.symm
  ·cases h
 have ac:∀l z,aX [(i,VH.arr T e (A++B))] l=some z->l=i:=by
  intro l z h;rw[cK] at h;split at h
  ·rename_i C;exact C.symm
  ·cases h
 have U:∀k,qS (ρ' i) k->qS (ρ i) k:=by
  intro k D;rw[H] at D;have:=pD.1 D;left;rw[P];exact this
 obtain⟨q1,q2⟩:=N.ko (d':=[(i,.dp (DE.J4 T e b) [.any K.length,.rows A,.rows B,.any G.length] [])]) (ρ':=ρ') (fun l z bb h D=>by
   have V:=I l z h;rw[V] at D
   exact⟨i,_,L,U bb D⟩) (fun l l' z aa k h h' _ _=>by rw[I l z h,I l' aa h']) (fun hE l z h=>by
   obtain rfl:=I l z h;simp only[aX,zb,XG,A7] at h;subst h;rw[H];obtain⟨ca,cb,rfl,k1,k2⟩:=zC (Wr.VN R hE)
   exact⟨rfl,_,h2,K,_,rfl,rfl,ca,_,by rw[A8],k1,cb,G,rfl,k2,G,[],by simp,rfl,rfl⟩)
 refine⟨⟨ρ',q1,fun u s E=>?_⟩,hz,YR⟩;rw[mC] at E;split at E
 ·rename_i C;subst C;cases E;have:=O t _ hx;simp only[Slot.ok] at this ⊢;refine⟨⟨b,by rw[H];rfl⟩,?_⟩;rw[this.2,P,H];rfl
 ·have X:=hg.spec u s E;refine Slot.VE s _ (O u s X) q2 fun l M=>?_;have:=j4.1 hl _ (Ls E);have:s.YF=[]:=by simpa using this
  rw[this] at M;cases M
theorem Bi{t p n c q:Nat}{A V B:List α}(hn:n=(A++(V++B)).length)(hnc:n<=c)(ni:c*e.n<=n*e.n+q)(m9:n<=140737488355328){g:List (Nat×Slot)}(hx:lk g t=some (.r8 i p 0 n c)):
  Sub F ⟨g,[(i,.dp (DE.J4 T e b) [.any p,.rows A,.rows V,.rows B,.any q] [])]⟩ ⟨[(t,.ref i)],[(i,.arr T e (A++(V++B)))]⟩:=by
 rintro a w ⟨⟨ρ,hc,hs⟩,hz,YR⟩;have P:aX [(i,VH.dp (DE.J4 T e b) [.any p,.rows A,.rows V,.rows B,.any q] [])] i=some (.dp (DE.J4 T e b) [.any p,.rows A,.rows V,.rows B,.any q] []):=by simp[aX]
 obtain⟨E,cs,I,K⟩:=hc.own i _ P;obtain⟨M,_,rfl,rfl,N,_,rfl,U,cv,_,rfl,X,O,_,rfl,k3,ac,_,rfl,rfl,rfl⟩:=K;let ρ':Nat->LV:=fun l=>if l=i then .of (.slice (some ⟨b,M.length,none⟩) n c) else ρ l
 have C:ρ' i= .of (.slice (some ⟨b,M.length,none⟩) n c):=WJ rfl;have D:∀l z,aX [(i,VH.arr T e (A++(V++B)))] l=some z->l=i:=by
  intro l z h;rw[cK] at h;split at h
  ·rename_i H;exact H.symm
  ·cases h
 have Q:∀{S w},e.YU A S w N->e.YU V S w cv->e.YU B S w O->e.YU (A++(V++B)) S w (N++(cv++O)):=fun E I K=>gI E (gI I K);have aa:=cQ (Q U X k3)
 obtain⟨q1,q2⟩:=hc.ko (d':=[(i,.arr T e (A++(V++B)))]) (ρ':=ρ') (fun l z k h R=>by
   obtain rfl:=D l z h;refine⟨l,_,P,?_⟩;rw[C] at R;have:=pD.1 R
   left;rw[E];exact this) (fun l l' z ab k h h' _ _=>by rw[D l z h,D l' ab h']) (fun L l z h=>by
   obtain rfl:=D l z h;simp only[aX,zb,XG,A7] at h;subst h;rw[C];refine .inr ⟨b,c,M,N++(cv++O),ac,by rw[hn];rfl,?_,Q (Wr.VN U L) (Wr.VN X L) (Wr.VN k3 L),by omega,?_,by omega⟩
   ·rw[I];simp[A8]
   ·rw[aa,<-hn];exact ni)
 refine⟨⟨ρ',q1,fun u s G=>?_⟩,hz,YR⟩;rw[mC] at G;split at G
 ·rename_i H;subst H;cases G;have:=hs t _ hx;simp only[Slot.ok] at this ⊢;refine⟨.inl ⟨_,_,_,by rw[C];rfl⟩,?_⟩;rw[this.2,E,C];rfl
 ·cases G
theorem rP{ρ:Nat->LV}{S:Nat->Prop}{w:World}{o n c:Nat}{v:Value}(h:(Slot.r8 i o 0 n c).ok ρ S w v):∃b,(ρ i).v= .pointer (some ⟨b,0,none⟩)/\v= .slice (some ⟨b,o,none⟩) n c:=by
 simp only[Slot.ok] at h;obtain⟨⟨b,u⟩,z⟩:=h;exact⟨b,u,by rw[z,u];rfl⟩
theorem Mk{ρ:Nat->LV}{S:Nat->Prop}{w:World}{o n c b:Nat}(h:(ρ i).v= .pointer (some ⟨b,0,none⟩)):(Slot.r8 i o 0 n c).ok ρ S w (.slice (some ⟨b,o,none⟩) n c):=by
 simp only[Slot.ok];exact⟨⟨b,h⟩,by rw[h];rfl⟩
theorem zU{o n c m:Nat}{lo:Int}{k:IntKind}{E:TypeId}(o' n' c':Nat)(hlo:lo=(m:Int))(hm:m<=n)(hmc:m<c)(ho:o'=o+m*e.n)(I7:n'=n - m)(N0:c'=c - m)(hx:dD σ.g x=some (.r8 i o 0 n c))(hy:dD σ.g y=some (.v (Wr.int k) lo))
  (hU:∀w,(underlying U).run F.P w= .ok (.slice E) w) (hE:∀w,(sizeOf E).run F.P w= .ok e.n w):JO F ⟨d,.slice U x (some y) none none,ty,p,af,gd⟩ σ (.r8 i o' 0 n' c') []:=by
 subst hlo ho I7 N0;intro ρ S a w K;obtain⟨b,A,B⟩:=rP (K.slot x (by simp[Op.operands]) _ hx);have h:=(fQ K (x:=y) (by simp[Op.operands]) hy).1;refine VJ.value (w':=w) ?_ (XJ.same (Mk A));have u:=Dc (P:=F.P) (w:=w) (len:=n) (cap:=c) (k:=k) (lo:=(m:Int)) (by omega) (by omega);have z:¬(c=m):=by omega
 simp[execOp,Instr.sliceAt,Instr.slice,B,h,hU,hE,u,z,Addr.add_lit]
theorem Ej{o n c m:Nat}{hi:Int}{k:IntKind}{E:TypeId}(n':Nat)(hhi:hi=(m:Int))(hm:m<=c)(I7:n'=m)(hx:dD σ.g x=some (.r8 i o 0 n c))(hy:dD σ.g y=some (.v (Wr.int k) hi))
  (hU:∀w,(underlying U).run F.P w= .ok (.slice E) w) (hE:∀w,(sizeOf E).run F.P w= .ok e.n w):JO F ⟨d,.slice U x none (some y) none,ty,p,af,gd⟩ σ (.r8 i o 0 n' c) []:=by
 subst hhi I7;intro ρ S a w K;obtain⟨b,A,B⟩:=rP (K.slot x (by simp[Op.operands]) _ hx);have h:=(fQ K (x:=y) (by simp[Op.operands]) hy).1;refine VJ.value (w':=w) ?_ (XJ.same (Mk A));have u:=Ha (P:=F.P) (w:=w) (len:=n) (cap:=c) (k':=k) (hi:=(n':Int)) (by omega) (by omega);have z:Addr.add ⟨b,o,none⟩ 0=⟨b,o,none⟩:=by rw[Addr.add_lit];rfl
 simp[execOp,Instr.sliceAt,Instr.slice,B,h,hU,hE,u,z]
theorem Tx{ρ:Nat->LV}{w:World}{q:List (Z2 α)}(hc:Core F σ.d ρ w)(he:aX σ.d i=some (.dp (DE.J4 T e b) q [])):(ρ i).v= .pointer (some ⟨b,0,none⟩)/\∃cs,w.heap[b]? =some (.cells cs.toArray T (0,0))/\Z2.YU e (Un F.S0 ρ σ.d) w q cs:=hc.own i _ he
theorem Px{ρ:Nat->LV}{a:Act}{w:World}{q q':List (Z2 α)}{k:Nat}{c0 c1 c2 news:List Value}(hc:Core F σ.d ρ w)(hs:∀t s,lk σ.g t=some s->s.ok ρ (Un F.S0 ρ σ.d) w (a.tmps.getD t undef))(hz:a.tmps.size=F.N)(YR:a.defers=F.df)
  (he:aX σ.d i=some (.dp (DE.J4 T e b) q [])) (hd:gN d F.N=true) (hb:w.heap[b]? =some (.cells (c0++(c1++c2)).toArray T (0,0))) (hk:k<=9223372036854775807)
  (hq:∀w',Ext (Un F.S0 ρ σ.d) (Un F.S0 ρ σ.d) w w'->Z2.YU e (Un F.S0 ρ σ.d) w' q' (c0++(news++c2))):
  St F ⟨iO d (.v (Wr.int .i64) ((k:Nat):Int)) σ.g,(i,.dp (DE.J4 T e b) q' [])::σ.d⟩ (a.put d (.int .i64 (k:Int))) (w.setRow b (c0++(news++c2)).toArray):=by
 have z:=(Tx hc he).1;have C:=Z1.setRow w b (c0++(news++c2)).toArray;obtain⟨G,H⟩:=hc.upd (en':= .dp (DE.J4 T e b) q' []) he (.inl (by rw[z];rfl)) C (fun E=>⟨z,_,setRow_heap w b _ (c0++(news++c2)).toArray T _ hb,hq _ E⟩);refine⟨⟨ρ,G,fun t s h=>?_⟩,by rw[kW,hz],by cases d<;>exact YR⟩;have A:∀t s,lk σ.g t=some s->s.ok ρ (Un F.S0 ρ ((i,.dp (DE.J4 T e b) q' [])::σ.d)) (w.setRow b (c0++(news++c2)).toArray) (a.tmps.getD t undef):=fun t s h=>Slot.VE s _ (hs t s h) H (fun _ _=>rfl);cases d with
 |none=>exact A t s h
 |some B=>
  simp only[iO] at h;have D:B<a.tmps.size:=by rw[hz];exact w7 hd
  rw[kX a B _ t D];rw[mC] at h;split at h
  ·rename_i u;cases h;rw[WJ u];exact tC (Cz hk) _ _ _
  ·rename_i u;rw[WA u];exact A t s h
theorem Ga{P:Program}{w:World}{U E tt:TypeId}{en b o n c m cap:Nat}{ad:Option Addr}{c0 c1 c2 news:List Value}(hU:∀w,(underlying U).run P w= .ok (.slice E) w)(hE:∀w,(sizeOf E).run P w= .ok en w)
  (hb:w.heap[b]? =some (.cells (c0++(c1++c2)).toArray T (0,0))) (h0:c0.length=o) (h1:c1.length=news.length) (hn:news.length=min m n*en) (A5:∀lu,ad=some lu->∀j u,news[j]? =some u->w.cell? (lu.add j)=some u) (ch:ad=none->news=[]) (A4:∀v∈news,v.oneCell'=true):
  (Builtin.copy_ #[U,U] tt #[.slice (some ⟨b,o,none⟩) n c,.slice ad m cap]).run P w= .ok (.int .i64 ((min m n:Nat):Int)) (w.setRow b (c0++(news++c2)).toArray):=by
 have z:(Builtin.firstCells en (min m n) (.slice ad m cap)).run P w= .ok news.toArray w:=by
  cases YG:ad with
  |none=>rw[ch YG];simp[Builtin.firstCells]
  |some lu=>exact run_firstCells_some (P:=P) w en (min m n) lu m cap news hn (A5 lu YG)
 have A:o+news.length<=(c0++(c1++c2)).length:=by simp only[sM];omega
 have h:=run_storeCells_at P b o T news 0 (c0++(c1++c2)).toArray w hb (by simpa using A) A4;have B:(c0++(c1++c2)).take o=c0:=by rw[<-h0];exact yv
 have HZ:(c0++(c1++c2)).drop (o+news.length)=c2:=by
  rw[<-h0,<-h1,<-A8,<-sM];exact pv
 simp only[aDg] at h;rw[B,HZ,A8] at h;simp only[Builtin.copy_];have C:Nat.min m n=min m n:=rfl;simp[hU,hE,Builtin.lenOf,C,z,h,goInt]
theorem Lf{xs:List α}{S w cs}(h:e.YU xs S w cs):∀v∈cs,v.oneCell'=true:=rI h
theorem Ty{q m pp n1 c1 n2 c2 o1 o2:Nat}{A B:List α}{E:TypeId}(he:aX σ.d i=some (.dp (DE.J4 T e b) [.any pp,.rows A,.rows B,.any q] []))(hx:dD σ.g x=some (.r8 i o1 0 n1 c1))(hy:dD σ.g y=some (.r8 i o2 0 n2 c2))
  (ho1:o1=pp+(A.length+m)*e.n) (xp:o2=pp+A.length*e.n) (N9:n1=B.length) (pd:n2=B.length+m) (hq:m*e.n<=q) (hBl:B.length<=9223372036854775807)
  (hU:∀w,(underlying U).run F.P w= .ok (.slice E) w) (hE:∀w,(sizeOf E).run F.P w= .ok e.n w) (hd:gN d F.N=true):
  JM F ⟨d,.call ⟨.builtin .copy,#[x,y],#[U,U]⟩,ty,p,af,gd⟩ σ ⟨iO d (.v (Wr.int .i64) ((B.length:Nat):Int)) σ.g,(i,.dp (DE.J4 T e b) [.any pp,.rows A,.any (m*e.n),.rows B,.any (q - m*e.n)] [])::σ.d⟩:=by
 subst ho1 xp N9 pd;rintro a w ⟨⟨ρ,O,hs⟩,m9,YR⟩;have K:=cI O hs (Op.call ⟨.builtin .copy,#[x,y],#[U,U]⟩).operands;obtain⟨b1,g1,g2⟩:=rP (K.slot x (by simp[Op.operands,Call.operands]) _ hx);obtain⟨b2,g3,g4⟩:=rP (K.slot y (by simp[Op.operands,Call.operands]) _ hy);obtain⟨k1,cs,I,C,_,rfl,D,G,_,rfl,k4,cb,_,rfl,M,L,_,rfl,Q,rfl⟩:=Tx O he;have e1:b1=b:=by rw[k1] at g1;cases g1;rfl
 have e2:b2=b:=by rw[k1] at g3;cases g3;rfl
 rw[e1] at g2;rw[e2] at g4;have D:C.length=pp:=D;have Q:L.length=q:=Q;have R:=cQ k4;have S:=cQ M;obtain⟨z,ZS⟩:∃z,z=cb++(L++[]):=⟨_,rfl⟩;have H:z.length=B.length*e.n+q:=by rw[ZS];simp only[sM,T6];omega
 have V:C++(G++(cb++(L++[])))=(C++G++z.take (m*e.n))++((z.drop (m*e.n)).take (B.length*e.n)++z.drop (m*e.n+B.length*e.n)):=by
  rw[<-ZS];have:z=z.take (m*e.n)++((z.drop (m*e.n)).take (B.length*e.n)++z.drop (m*e.n+B.length*e.n)):=by
   rw[<-aDx,X2,X2]
  conv=>lhs;rw[this]
  simp only[A8]
 rw[V] at I;have X:min (B.length+m) B.length=B.length:=by omega
 have K0:∀j u,cb[j]? =some u->w.cell? ((⟨b,pp+A.length*e.n,none⟩:Addr).add j)=some u:=by
  have hm:VQ w b (C.length+G.length) cb:=by
   have h1:=VQ.of_heap I;rw[<-V,<-A8] at h1;have:=VQ.sub (a:=C++G) (c:=cb) (d:=L++[]) h1;simpa using this
  intro j u hj;have:=hm.cell j u hj
  rwa [D,R] at this
 have hr:=Ga (P:=F.P) (w:=w) (tt:=ty) (T:=T) (U:=U) (E:=E) (en:=e.n) (b:=b) (o:=pp+(A.length+m)*e.n) (n:=B.length) (c:=c1) (m:=B.length+m) (cap:=c2) (ad:=some ⟨b,pp+A.length*e.n,none⟩) (news:=cb) hU hE I
  (by simp only[sM,C0,D,R,H];rw[px (by omega),I6];omega)
  (by simp only[C0,R6,H,S];omega) (by rw[X];exact S) (fun lu h=>by cases h;exact K0) (fun h=>by cases h) (Lf M)
 rw[X] at hr;refine VJ.value (v:= .int .i64 ((B.length:Nat):Int)) (w':=_) ?_ (Px (q':=[.any pp,.rows A,.any (m*e.n),.rows B,.any (q - m*e.n)]) O hs m9 YR he hd I hBl (news:=cb) fun w' pj=>?_)
 ·simp[execOp,resolve,invoke,builtin,g2,g4,hr]
 ·refine⟨C,_,by rw[A8,A8],D,G,_,rfl,Wr.VN k4 pj,z.take (m*e.n),_,rfl,?_,cb,_,rfl,Wr.VN M pj,z.drop (m*e.n+B.length*e.n),[],by simp,?_,rfl⟩
  ·show (z.take (m*e.n)).length=_;rw[C0,H];omega
  ·show (z.drop (m*e.n+B.length*e.n)).length=_;rw[R6,H];omega
theorem Xm{q m pp n1 c1 o1 k:Nat}{A V B:List α}{E:TypeId}(he:aX σ.d i=some (.dp (DE.J4 T e b) [.any pp,.rows A,.any k,.rows B,.any q] []))(hx:dD σ.g x=some (.r8 i o1 0 n1 c1))(hy:Src σ y e V)
  (ho1:o1=pp+A.length*e.n) (hV:V.length=m) (hk:k=m*e.n) (N9:m<=n1)
  (hU:∀w,(underlying U).run F.P w= .ok (.slice E) w) (hE:∀w,(sizeOf E).run F.P w= .ok e.n w) (hd:gN d F.N=true):
  JM F ⟨d,.call ⟨.builtin .copy,#[x,y],#[U,U]⟩,ty,p,af,gd⟩ σ ⟨iO d (.v (Wr.int .i64) ((m:Nat):Int)) σ.g,(i,.dp (DE.J4 T e b) [.any pp,.rows A,.rows V,.rows B,.any q] [])::σ.d⟩:=by
 subst ho1 hk;rintro a w ⟨⟨ρ,R,hs⟩,m9,YR⟩;have K:=cI R hs (Op.call ⟨.builtin .copy,#[x,y],#[U,U]⟩).operands;obtain⟨b1,g1,g2⟩:=rP (K.slot x (by simp[Op.operands,Call.operands]) _ hx);have S:∀q,q∈#[y]->q∈(Op.call ⟨.builtin .copy,#[x,y],#[U,U]⟩).operands:=by
  intro q z;have K7:q=y:=by simpa using z
  subst K7;simp[Op.operands,Call.operands]
 obtain⟨P3,ad,c,r1,r2⟩:=hy ρ _ a w ⟨K.low,fun q z s h=>K.slot q (S q z) s h,fun q z s h=>K.y9 q (S q z) s h⟩;obtain⟨k1,cs,L,D,_,rfl,C,M,_,rfl,k4,cg,_,rfl,G,O,_,rfl,k5,Q,_,rfl,A3,rfl⟩:=Tx R he;have e1:b1=b:=by rw[k1] at g1;cases g1;rfl
 rw[e1] at g2;have C:D.length=pp:=C;have G:cg.length=m*e.n:=G;have W6:=cQ k4;have X:min m n1=m:=by omega
 obtain⟨news,aa,n2,n3,n4⟩:∃news:List Value,news.length=m*e.n/\e.YU V (Un F.S0 ρ σ.d) w news/\(∀H,ad=some H->∀j u,news[j]? =some u->w.cell? (H.add j)=some u)/\(ad=none->news=[]):=by
  rcases r2 with rfl |⟨b3,ac,ds,rfl,ab,fo⟩
  ·simp at hV;subst hV;exact⟨[],by simp,rfl,fun _ _ j u h=>by simp at h,fun _=>rfl⟩
  ·exact⟨ds,by rw[cQ fo,hV],fo,fun H h=>by cases h;exact ab.cell,fun h=>by cases h⟩
 have E2:D++(M++(cg++(O++(Q++[]))))=(D++M)++(cg++(O++Q)):=by simp
 rw[E2] at L;have hr:=Ga (P:=F.P) (w:=w) (tt:=ty) (T:=T) (U:=U) (E:=E) (en:=e.n) (b:=b) (o:=pp+A.length*e.n) (n:=n1) (c:=c1) (m:=m) (cap:=c) (ad:=ad) (news:=news) hU hE L
  (by simp only[sM,C,W6]) (by rw[G,aa]) (by rw[X];exact aa) n3 n4 (Lf n2)
 rw[X] at hr;refine VJ.value (v:= .int .i64 ((m:Nat):Int)) (w':=_) ?_ (Px (q':=[.any pp,.rows A,.rows V,.rows B,.any q]) R hs m9 YR he hd L (by omega) (news:=news) fun w' I=>?_)
 ·rw[hV] at r1;simp[execOp,resolve,invoke,builtin,g2,r1,hr]
 ·exact⟨D,_,by rw[A8],C,M,_,rfl,Wr.VN k4 I,news,_,rfl,Wr.VN n2 I,O,_,rfl,Wr.VN k5 I,Q,[],by simp,A3,rfl⟩
end
end Go.Sw
namespace Go.Sw
open Go Go.RowKit
section
variable {F:WV}{σ:AS}{pb:Option Nat}{s:Slot}{d:Option Tmp}{ty:TypeId}{p:String}{af:Array Edge}{gd:Option (Nat×Bool)}{x y z:Operand}{α:Type}{e:Wr α}{T U:TypeId}{i b:Nat}
theorem Xn{xs:Array Operand}{ρ:Nat->LV}{S a w}(K:m7 σ xs ρ S a w)(hm:x∈xs){o n c:Nat}{q:List (Z2 α)}(hx:dD σ.g x=some (.r8 i o 0 n c))(he:aX σ.d i=some (.dp (DE.J4 T e b) q [])):
  a.eval x= .slice (some ⟨b,o,none⟩) n c/\(∃cs,w.heap[b]? =some (.cells cs.toArray T (0,0))/\Z2.YU e S w q cs)/\S b/\b<w.heap.size:=by
 obtain⟨C,h,z⟩:=rP (K.slot x hm _ hx);obtain⟨⟨u,A⟩,B⟩:=K.y9 x hm _ hx i (by simp[Slot.YF]) _ he;rw[u] at h;cases h;exact⟨z,A,B b (.inl (by rw[u];rfl))⟩
theorem Src.J4{pp q n c o:Nat}{A B:List α}(h:dD σ.g y=some (.r8 i o 0 n c))(he:aX σ.d i=some (.dp (DE.J4 T e b) [.any pp,.rows A,.rows B,.any q] []))(ho:o=pp+A.length*e.n)(hn:n=B.length)(m9:B.length<=140737488355328):Src σ y e B:=by
 subst ho hn;intro ρ S a w K;obtain⟨u,⟨M,F,C,_,rfl,z,G,_,rfl,H,D,_,rfl,I,L,_,rfl,N,rfl⟩,_⟩:=Xn K (x:=y) (by simp) h he;have z:C.length=pp:=z;have E:=cQ H;refine⟨m9,_,c,u,.inr ⟨b,_,D,rfl,?_,I⟩⟩;have u:=VQ.of_heap F;rw[<-A8] at u;have:=VQ.sub (a:=C++G) (c:=D) (d:=L++[]) u;simpa[z,E] using this
theorem Ml{zs ys ws:List α}{lo:Int}{E:TypeId}(im:Sw.sub zs lo (zs.length:Int)=some ws)(hx:dD σ.g x=some (.sub i (lo.toNat*e.n) ((zs.length:Int).toNat - lo.toNat)))(he:aX σ.d i=some (.arr T e zs))(hy:Src σ y e ys)(hle:ys.length<=zs.length - lo.toNat)
  (hU:∀w,(underlying U).run F.P w= .ok (.slice E) w) (hE:∀w,(sizeOf E).run F.P w= .ok e.n w) (hd:gN d F.N=true):
  JM F ⟨d,.call ⟨.builtin .copy,#[x,y],#[U,U]⟩,ty,p,af,gd⟩ σ ⟨iO d (.v (Wr.int .i64) ((ys.length:Nat):Int)) σ.g,(i,.arr T e (zs.take lo.toNat++ys++zs.drop (lo.toNat+ys.length)))::σ.d⟩:=by
 rintro a w ⟨⟨ρ,hc,ZF⟩,m9,YR⟩;have K:=cI hc ZF (Op.call ⟨.builtin .copy,#[x,y],#[U,U]⟩).operands;have rf:=K.slot x (by simp[Op.operands,Call.operands]) _ hx;simp only[Slot.ok] at rf;obtain⟨_,c,o,g1,V,O⟩:=rf;have F5:ZM T e zs (Un F.S0 ρ σ.d) w (ρ i).v:=(K.y9 x (by simp[Op.operands,Call.operands]) _ hx i (by simp[Slot.YF]) _ he).1;have YC:∀q,q∈#[y]->q∈(Op.call ⟨.builtin .copy,#[x,y],#[U,U]⟩).operands:=by
  intro q G;have K7:q=y:=by simpa using G
  subst K7;simp[Op.operands,Call.operands]
 obtain⟨P3,ad,X,r1,r2⟩:=hy ρ _ a w ⟨K.low,fun q G s h=>K.slot q (YC q G) s h,fun q G s h=>K.y9 q (YC q G) s h⟩;obtain⟨s0,s1,_,_⟩:=gS im;obtain⟨l,hl⟩:∃l,l=lo.toNat:=⟨_,rfl⟩;simp only[m6] at g1 V O;rw[<-hl] at g1 V O hle ⊢;have am:l<=zs.length:=by omega
 have done:∀w',(execOp a.eval ⟨d,.call ⟨.builtin .copy,#[x,y],#[U,U]⟩,ty,p,af,gd⟩).run F.P w= .ok (.value (.int .i64 ((ys.length:Nat):Int))) w'->
   (∃b,qS (ρ i) b/\Z1 b w w'/\(Ext (Un F.S0 ρ σ.d) (Un F.S0 ρ σ.d) w w'->(VH.arr T e (zs.take l++ys++zs.drop (l+ys.length))).ok ρ (Un F.S0 ρ σ.d) w' (ρ i)))\/(w'=w/\zs.take l++ys++zs.drop (l+ys.length)=zs)->
   VJ F.P ⟨d,.call ⟨.builtin .copy,#[x,y],#[U,U]⟩,ty,p,af,gd⟩ a w fun v w'=>St F ⟨iO d (.v (Wr.int .i64) ((ys.length:Nat):Int)) σ.g,(i,.arr T e (zs.take l++ys++zs.drop (l+ys.length)))::σ.d⟩ (a.put d v) w':=by
  intro w' M h;refine VJ.value M ?_;obtain⟨q1,q2⟩:Core F ((i,.arr T e (zs.take l++ys++zs.drop (l+ys.length)))::σ.d) ρ w'/\Ext (Un F.S0 ρ σ.d) (Un F.S0 ρ ((i,.arr T e (zs.take l++ys++zs.drop (l+ys.length)))::σ.d)) w w':=by
   rcases h with⟨b,H,h2,I⟩|⟨rfl,h2⟩
   ·exact hc.upd he H h2 I
   ·rw[h2];have aa:∀q en,aX σ.d q=some en↔aX ((i,.arr T e zs)::σ.d) q=some en:=fun q en=>by
     rw[cK];split
     ·rename_i h;subst h;rw[he]
     ·rfl
    exact⟨hc.congr aa,⟨YO _,fun k _ hk=>⟨rfl,by rw[<-Un.congr aa];exact hk⟩⟩⟩
  refine⟨⟨ρ,q1,fun t s A=>?_⟩,by rw[kW,m9],by cases d<;>exact YR⟩;have ab:∀t s,lk σ.g t=some s->s.ok ρ (Un F.S0 ρ ((i,.arr T e (zs.take l++ys++zs.drop (l+ys.length)))::σ.d)) w' (a.tmps.getD t undef):=fun t s A=>Slot.VE s _ (ZF t s A) q2 (fun _ _=>rfl);cases d with
  |none=>exact ab t s A
  |some q0=>
   simp only[iO] at A;have WZ:q0<a.tmps.size:=by rw[m9];exact w7 hd
   rw[kX a q0 _ t WZ];rw[mC] at A;split at A
   ·rename_i H;cases A;rw[WJ H];exact tC (Cz (by omega)) _ _ _
   ·rename_i H;rw[WA H];exact ab t s A
 by_cases Q:zs.length - l=0
 ·have ah:ys=[]:=fy (by omega);subst ah;refine done w ?_ (.inr ⟨rfl,by simp⟩);have D:∃q,a.eval x= .slice q 0 c:=by
   rw[O,Q];rcases F5 with⟨_,h⟩|⟨b,cap,B,z,C,h,_⟩<;>rw[h]<;>exact⟨_,rfl⟩
  obtain⟨q,D⟩:=D;have hf:(Builtin.firstCells e.n 0 (.slice ad 0 X)).run F.P w= .ok #[] w:=by
   cases ad<;>simp[Builtin.firstCells,loadCells,loadCellsFrom]
  have ai:(Builtin.copy_ #[U,U] ty #[.slice q 0 c,.slice ad 0 X]).run F.P w= .ok (.int .i64 0) w:=by
   have L:Nat.min 0 0=0:=rfl;cases q<;>simp[Builtin.copy_,hU,hE,Builtin.lenOf,L,hf,goInt,storeCells]
  simp only[T6] at r1;simp[execOp,resolve,invoke,builtin,D,r1,ai]
 ·have ho:o=l*e.n:=V.resolve_right Q;subst ho;rcases F5 with⟨rfl,h⟩|⟨b,cap,B,z,C,I,h4,h5,h6,h7,h8⟩
  ·simp at Q
  ·have YK:=cQ h5;have D:a.eval x= .slice (some ⟨b,B.length+l*e.n,none⟩) (zs.length - l) c:=by rw[O,I];rfl
   obtain⟨news,ae,n2,n3,n4⟩:∃news:List Value,news.length=ys.length*e.n/\e.YU ys (Un F.S0 ρ σ.d) w news/\(∀R,ad=some R->∀j u,news[j]? =some u->w.cell? (R.add j)=some u)/\(ad=none->news=[]):=by
    rcases r2 with rfl |⟨b3,an,ds,rfl,aj,fo⟩
    ·exact⟨[],by simp,rfl,fun _ _ j u h=>by simp at h,fun _=>rfl⟩
    ·exact⟨ds,cQ fo,fo,fun R h=>by cases h;exact aj.cell,fun h=>by cases h⟩
   have L:min ys.length (zs.length - l)=ys.length:=by omega
   have m1:l*e.n+ys.length*e.n<=z.length:=by rw[YK,<-I6];exact ug _ (by omega)
   have E2:B++(z++C)=(B++z.take (l*e.n))++((z.drop (l*e.n)).take (ys.length*e.n)++(z.drop (l*e.n+ys.length*e.n)++C)):=by
    have:z=z.take (l*e.n)++((z.drop (l*e.n)).take (ys.length*e.n)++z.drop (l*e.n+ys.length*e.n)):=by
     rw[<-aDx,X2,X2]
    conv=>lhs;rw[this]
    simp only[A8]
   rw[E2] at h4;have M:=Ga (P:=F.P) (w:=w) (tt:=ty) (T:=T) (U:=U) (E:=E) (en:=e.n) (b:=b) (o:=B.length+l*e.n) (n:=zs.length - l) (c:=c) (m:=ys.length) (cap:=X) (ad:=ad) (news:=news) hU hE h4
    (by simp only[sM,C0];omega) (by simp only[C0,R6];omega) (by rw[L];exact ae) n3 n4 (Lf n2)
   rw[L] at M;refine done (w.setRow b ((B++z.take (l*e.n))++(news++(z.drop (l*e.n+ys.length*e.n)++C))).toArray) ?_ (.inl ⟨b,.inl (by rw[I];rfl),Z1.setRow w b _,fun S=> .inr ⟨b,cap,B,z.take (l*e.n)++news++z.drop (l*e.n+ys.length*e.n),C,?_,?_,?_,?_,?_,?_⟩⟩)
   ·simp[execOp,resolve,invoke,builtin,D,r1,M]
   ·rw[I];simp only[sM,C0,R6];congr 1;omega
   ·have:=setRow_heap w b _ ((B++z.take (l*e.n))++(news++(z.drop (l*e.n+ys.length*e.n)++C))).toArray T _ h4;rw[this];congr 3;simp
   ·refine gI (gI (Wr.VN (sQ l h5) S) (Wr.VN n2 S)) ?_;have ac:=Wr.VN (vT (l+ys.length) h5) S;rw[I6] at ac;exact ac
   ·simp only[sM,C0,R6];omega
   ·simp only[sM,C0,R6,ae];omega
   ·simp only[sM,C0,R6];omega
theorem GF{pp q k n c o:Nat}{nk:Int}{A B:List α}{I:TypeId}{kI:IntKind}{kI':IntKind}{ti:TypeInfo}{z0:Value}{zv:α}(j:Nat)(h:dD σ.g x=some (.r8 i o 0 n c))(he:aX σ.d i=some (.dp (DE.J4 T e b) [.any pp,.rows A,.rows B,.any q] []))(hy:dD σ.g y=some (.v (Wr.int kI) nk))
  (ho:o=pp) (hn:n=A.length) (hnk:nk=(k:Int)) (hk:0<k) (tc:c<n+k) (hlen:A.length+k<=4294967296) (C6:Nat.blt 0 e.n=true)
  (hU:∀w,(underlying U).run F.P w= .ok (.slice T) w) (hI:∀w,(underlying I).run F.P w= .ok (.int kI') w) (hi:∀w,(typeInfo T).run F.P w= .ok ti w) (hS:∀w,(sizeOf T).run F.P w= .ok e.n w) (hz:ti.zero=some z0) (dy:∀S w,e.ok zv S w z0.cells.toList) (T3:Nat.ble ti.bytes 4096=true):
  JO F ⟨d,.call ⟨.builtin .append,#[x,y],#[U,I]⟩,ty,p,af,gd⟩ σ (.ref j) [(j,.arr T e (A++List.replicate k zv))]:=by
 subst ho hn hnk;have C6:1<=e.n:=by simpa[Nat.blt] using C6
 have T3:=w7 T3;intro ρ S a w K;obtain⟨h1,⟨cs,h2,O,_,rfl,C,ca,_,rfl,Q,cb,_,rfl,k5,ap,_,rfl,A3,rfl⟩,au,WZ⟩:=Xn K (x:=x) (by simp[Op.operands,Call.operands]) h he;have C:O.length=o:=C;have G:=cQ Q;have V:=(fQ K (x:=y) (by simp[Op.operands,Call.operands]) hy).1;have xl:ti.size=e.n:=La hi hS;have X:VQ w b o ca:=by
  have:=VQ.sub (a:=O) (c:=ca) (d:=cb++(ap++[])) (VQ.of_heap h2);simpa[C] using this
 have aa:∀j v,ca[j]? =some v->w.drew.cell? ((⟨b,o,none⟩:Addr).add j)=some v:=X.cell;have ab:(Builtin.firstCells e.n A.length (.slice (some ⟨b,o,none⟩) A.length c)).run F.P w.drew= .ok ca.toArray w.drew:=run_firstCells_some (P:=F.P) w.drew e.n A.length ⟨b,o,none⟩ A.length c ca G aa;have aq:k*ti.bytes<=281474976710656:=by
  have:k*ti.bytes<=4294967296*4096:=aCu (by omega) T3;omega
 have M7:Builtin.nextslicecap (A.length+k) c*ti.bytes<=281474976710656:=growslice_fits (by omega) (by
  have:(A.length+k)*ti.bytes<=4294967296*4096:=aCu hlen T3
  omega)
 have D:(Builtin.append_ #[U,I] ty #[.slice (some ⟨b,o,none⟩) A.length c,.int kI k]).run F.P w=
   .ok (.slice (some ⟨w.heap.size,0,none⟩) (A.length+k) (grownCap w (A.length+k) c T))
    (w.drew.alloc (.cells (ca.toArray++Builtin.zeroCells z0.cells k++Builtin.zeroCells z0.cells (grownCap w (A.length+k) c T - (A.length+k))) T)):=by
  have pg:k≠0:=by omega
  have hw:IntKind.i64.wrap (k:Int)=k:=by rw[IntKind.wrap_i64];omega
  have hn:¬(A.length+k<=c):=by omega
  have ac:¬(9223372036854775807<((A.length:Int)+(k:Int))):=by omega
  have ad:¬(281474976710656<Builtin.nextslicecap (A.length+k) c*ti.bytes):=by omega
  have ae:¬(281474976710656<(k:Int)*(ti.bytes:Int)):=by
   rw[<-Int.natCast_mul];omega
  have ah:¬((k:Int)<0):=by omega
  have ai:¬(k*e.n=0):=Nat.mul_ne_zero pg (by omega);have aj:∀w,(zeroValue T).run F.P w= .ok z0 w:=fun w=>by
   have:=hi w;simp[zeroValue,this,hz]
  simp[Builtin.append_,hU,hI,hS,hi,aj,asInt,asIntOf,hw,hn,ah,ai,ac,ad,ae,Question.forced,ab,newRow,grownCap]
 have fm:=grownCap_ge w (A.length+k) c T;obtain⟨u,R⟩:∃u,u=(Builtin.zeroCells z0.cells (grownCap w (A.length+k) c T - (A.length+k))).toList:=⟨_,rfl⟩;have E:z0.cells.size=e.n:=by have:=e.len (dy (fun _=>False) w);simpa using this
 have H:(Builtin.zeroCells z0.cells k).toList.length=k*e.n:=by rw[Z0,size_zeroCells,E]
 have M3:u.length=(grownCap w (A.length+k) c T - (A.length+k))*e.n:=by rw[R,Z0,size_zeroCells,E]
 have am:∀S w,e.YU (List.replicate k zv) S w (Builtin.zeroCells z0.cells k).toList:=fun S w=>Ei (dy S w) k _ H fun i hi=>Bg (by rw[E];exact hi);have an:ca.toArray++Builtin.zeroCells z0.cells k++Builtin.zeroCells z0.cells (grownCap w (A.length+k) c T - (A.length+k))=([]++((ca++(Builtin.zeroCells z0.cells k).toList)++u)).toArray:=by
  apply Array.ext';simp[R]
 rw[an] at D;obtain⟨w',z⟩:∃w',w'=w.drew.alloc (.cells ([]++((ca++(Builtin.zeroCells z0.cells k).toList)++u)).toArray T):=⟨_,rfl⟩;rw[<-z] at D;have L:Below w.heap.size w w':=by
  rw[z];exact Below.trans (b:=w.drew) ⟨rfl,rfl,rfl,YO _,fun _ _=>rfl⟩ (lF w.drew _)
 refine VJ.value (w':=w') (v:= .slice (some ⟨w.heap.size,0,none⟩) (A.length+k) (grownCap w (A.length+k) c T)) (by simp[execOp,resolve,invoke,builtin,h1,V,D]) ?_;refine zO (.slice (some ⟨w.heap.size,0,none⟩) (A.length+k) (grownCap w (A.length+k) c T)) L rfl ?_ ?_ ?_
 ·intro b' M;simp only[YN,A7] at M;subst M;exact⟨YO _,by rw[z,World.size_alloc];exact Nat.lt_succ_self _⟩
 ·intro N ρ' hS' _;have pj:Ext S N w w':=Re L hS';refine .inr ⟨w.heap.size,grownCap w (A.length+k) c T,[],ca++(Builtin.zeroCells z0.cells k).toList,u,by simp[LV.of],?_,gI (Wr.VN Q pj) (am _ _),by simpa using fm,?_,by simp;omega⟩
  ·rw[z,show w.heap.size=w.drew.heap.size from rfl,heap_alloc_new]
  ·rw[sM,G,H,M3,<-I6,<-I6];exact ug _ (by omega)
 ·intro N ρ' _ hρ _;simp only[Slot.ok];exact⟨.inl ⟨_,_,_,hρ⟩,hρ.symm⟩
theorem Rv{P:Program}{w:World}{tS tR E:TypeId}{size b o la ca lb cb oa ba:Nat}{cs:List Value}{c':Array Value}{T':TypeId}{fr:Nat×Nat}(hU:∀w,(underlying tS).run P w= .ok (.slice E) w)(hz:∀w,(sizeOf E).run P w= .ok size w)
  (YS:ba≠b) (hb:w.heap[b]? =some (.cells cs.toArray T (0,0))) (az:cs≠ []) (ha:w.heap[ba]? =some (.cells c' T' fr)) (N0:c'.size≠0):
  (Extern.SlicesOverlaps.overlaps #[tS,tS] #[tR] #[.slice (some ⟨ba,oa,none⟩) la ca,.slice (some ⟨b,o,none⟩) lb cb]).run P w= .ok (.bool false) w:=by
 have B:(ba != b)=true:=by simpa using YS
 have C:(ba==b)=false:=by simpa using YS
 have D:∀o,w.frozen? ⟨b,o,none⟩=false:=fun o=>by simp[World.frozen?,hb]
 have u:w.shape? b=some (T,cs.length):=by simp[World.shape?,hb]
 have z:w.shape? ba=some (T',c'.size):=by simp[World.shape?,ha]
 obtain⟨h,G⟩:∃h,c'.size=h+1:=⟨c'.size - 1,by omega⟩;rw[G] at z;have F:∃m,cs.length=m+1:=⟨cs.length - 1,by have:=ue.2 az;omega⟩;obtain⟨m,H⟩:=F;rw[H] at u
 change Sem.run P (α:=Value) (do
  let some t:=(#[tS,tS]:Array TypeId)[0]? | stuck "slices.overlaps: no parameter types"
  let .slice elem<-underlying t | stuck "slices.overlaps: slice type expected"
  let size<-sizeOf elem
  match (some ⟨ba,oa,none⟩:Option Addr),(some ⟨b,o,none⟩:Option Addr) with
  |some a,some b=>
   if la=0\/lb=0\/size=0 then pure (Value.bool false)
   else if a.block != b.block && (<-frozen a) && (<-frozen b) then unsupported .addressObserved
   else do
    if a.block != b.block then do
     noView a;noView b
     if<-mayBeOne a b then return Value.bool ((<-choose (.extern "sameAddr.stringBytes" 2))==1)
    pure (Value.bool (a.block==b.block && a.off<b.off+lb*size && b.off<a.off+la*size))
  |_,_=>pure (Value.bool false)) w=_
 by_cases A:la=0\/lb=0\/size=0
 ·simp[hU,hz,A]
 ·cases hfa:w.frozen? ⟨ba,oa,none⟩<;>cases aZc:w.frozen? ⟨ba,h+1,none⟩<;>
   simp[hU,hz,A,B,C,frozen,noView,viewAt,mayBeOne,stringish,shape,Sem.run,z,u,D,hfa,aZc]
theorem Tz{f:FuncId}{fn:Func}{vs:List α}{o n c pp q:Nat}{A B:List α}{ts:Array TypeId}{R:TypeId}(hf:F.P.funcs[f]? =some fn)(aO4:(fn.name== "runtime.NumGoroutine")=false) (hb:fn.body.isNone=true) (hn:Extern.findNext fn=none)
  (aZg:Extern.find fn=some (Extern.SlicesOverlaps.overlaps #[U,U] #[R])) (hx:dD σ.g x=some (.v (Wr.sl e) vs)) (hy:dD σ.g y=some (.r8 i o 0 n c)) (he:aX σ.d i=some (.dp (DE.J4 T e b) [.any pp,.rows A,.rows B,.any q] [])) (hvs:vs≠ []) (hB:B≠ []) (C6:Nat.blt 0 e.n=true)
  (hU:∀w,(underlying U).run F.P w= .ok (.slice T) w) (hE:∀w,(sizeOf T).run F.P w= .ok e.n w):JO F ⟨d,.call ⟨.value (.func f),#[x,y],ts⟩,ty,p,af,gd⟩ σ (.v Wr.bool false) []:=by
 have C6:1<=e.n:=by simpa[Nat.blt] using C6
 intro ρ S a w K;obtain⟨ad,X,z,_,h2⟩:=FM K (x:=x) (by simp[Op.operands,Call.operands]) hx;obtain⟨C,⟨cs,g2,g3⟩,g4,g5⟩:=Xn K (x:=y) (by simp[Op.operands,Call.operands]) hy he;obtain⟨b1,aa,ds,rfl,k1,k2,k3,k4⟩:=h2.resolve_left hvs;obtain⟨c',T',fr,k5,k6⟩:=k3;have D:=cQ k4;have E:=ue.2 hvs;have G:0<ds.length:=by rw[D];exact Nat.mul_pos E C6
 have H:c'.size≠0:=by
  intro h0;have:=k6 0 G;rw[zd (by omega)] at this;cases this
 have I:cs≠ []:=by
  rintro rfl;obtain⟨ab,_,h,_,ca,_,rfl,_,cb,_,rfl,h5,_⟩:=g3;have L:=cQ h5;have M:=ue.2 hB;have:0<cb.length:=by rw[L];exact Nat.mul_pos M C6
  have N:=congrArg List.length h;simp only[sM,T6] at N;omega
 have O:=Rv (P:=F.P) (w:=w) (T:=T) (tS:=U) (tR:=R) (size:=e.n) (la:=vs.length) (ca:=X) (lb:=n) (cb:=c) (oa:=aa) (o:=o) hU hE (fun V=>k2 (by rw[V];exact g4)) g2 I k5 H;have u:=run_callFunc_extern hf aO4 hb hn aZg #[a.eval x,a.eval y] w;rw[z,C] at u;rw[O] at u;refine VJ.value (w':=w) (v:= .bool false) ?_ (XJ.same (pE _ ρ S w));have Q:(execOp a.eval ⟨d,.call ⟨.value (.func f),#[x,y],ts⟩,ty,p,af,gd⟩).run F.P w=(callFunc f #[a.eval x,a.eval y]).run F.P w:=by
  simp[execOp,resolve,invoke,Deferred.ofValue,Act.eval]
 rw[Q,z,C,u];rfl
def ins{α:Type}(xs:List α)(n:Int)(vs:List α):Option (List α):=if 0<=n/\n<=xs.length/\xs.length+vs.length<=4294967296 then some (xs.take n.toNat++(vs++xs.drop n.toNat)) else none
theorem GG{α:Type}{xs vs r:List α}{n:Int}(h:ins xs n vs=some r):0<=n/\n<=xs.length/\xs.length+vs.length<=4294967296/\r=xs.take n.toNat++(vs++xs.drop n.toNat):=by
 unfold ins at h;split at h
 ·rename_i u;exact⟨u.1,u.2.1,u.2.2,by cases h;rfl⟩
 ·cases h
theorem AA{v:Value}{S w u}:Wr.raw.val v S w u↔u=v/\v.oneCell'=true:=by
 constructor
 ·rintro⟨z,⟨rfl,h⟩,rfl⟩;exact⟨rfl,h⟩
 ·rintro⟨rfl,h⟩;exact⟨[u],⟨rfl,h⟩,rfl⟩
theorem CI{o n c:Nat}{E:TypeId}(hx:dD σ.g x=some (.r8 i o 0 n c))(hU:∀w,(underlying U).run F.P w= .ok (.slice E) w):JO F ⟨d,.call ⟨.builtin .cap,#[x],#[U]⟩,ty,p,af,gd⟩ σ (.v Wr.raw (.int .i64 (c:Int))) []:=by
 intro ρ S a w K;obtain⟨b,_,u⟩:=rP (K.slot x (by simp[Op.operands,Call.operands]) _ hx);refine VJ.value (w':=w) (v:= .int .i64 (c:Int)) ?_ (XJ.same (by simp only[Slot.ok];exact AA.2 ⟨rfl,rfl⟩));have h:(Builtin.cap_ #[U] ty #[.slice (some ⟨b,o,none⟩) n c]).run F.P w= .ok (.int .i64 c) w:=by simp[Builtin.cap_,hU,goInt]
 simp[execOp,resolve,invoke,builtin,u,h]
theorem CJ{m n:Int}{T T':TypeId}(hx:dD σ.g x=some (.v (Wr.int .i64) m))(hy:dD σ.g y=some (.v Wr.raw (.int .i64 n))):JO F ⟨d,.binOp .gtr T x y T',ty,p,af,gd⟩ σ (.v Wr.bool (cm .gtr m n)) []:=by
 intro ρ S a w K;have u:=(fQ K (x:=x) (by simp[Op.operands]) hx).1;have h:=K.slot y (by simp[Op.operands]) _ hy;simp only[Slot.ok] at h;have h:=(AA.1 h).1;refine VJ.value (w':=w) (v:= .bool (cm .gtr m n)) ?_ (XJ.same (pE _ ρ S w));simp[execOp,u,h,eqGuard,Go.binOp,Op.intCmp,cm]
end
end Go.Sw
namespace Go.Sw
open Go Go.RowKit
def kp{α:Type}[DecidableEq α]:List α->α->Option Nat
 | [],_=>none
 |a::l,k=>if a=k then some 0 else (kp l k).map (·+1)
theorem GH{α:Type}[DecidableEq α]{k:α}:∀{l:List α} {i:Nat},kp l k=some i->i<l.length/\l[i]? =some k
 | [],i,h=>by simp[kp] at h
 |a::l,i,h=>by
  simp only[kp] at h;split at h
  ·rename_i u;cases h;simp[u]
  ·cases hr:kp l k with
   |none=>rw[hr] at h;cases h
   |some j=>rw[hr] at h;cases h;obtain⟨A,z⟩:=GH hr;exact⟨by simp;omega,by simpa using z⟩
theorem AB{α β:Type}[DecidableEq α]{k:α}:∀{m:List (α×β)},fK m k=(kp (m.map (·.1)) k).bind fun i=>(m[i]?).map (·.2)
 | []=>rfl
 | (a,b)::m=>by
  simp only[fK,E5,kp];split
  ·simp
  ·rw[AB (m:=m)];cases kp (m.map (·.1)) k<;>simp
def O5{α:Type}(e:Wr α)(S:Nat->Prop)(w:World):List α->List MapEntry->Prop
 | [],[]=>True
 |k::ks,x::xs=>e.val k S w x.key/\O5 e S w ks xs
 |_,_=>False
theorem O5.mono{α:Type}{e:Wr α}{S S':Nat->Prop}{w w':World}(k:Ext S S' w w'):∀{m:List α} {xs:List MapEntry},O5 e S w m xs->O5 e S' w' m xs
 | [],[],_=>trivial
 |_::_,_::_,⟨u,z⟩=>⟨gO u k,O5.mono k z⟩
 | [],_::_,h=>h.elim
 |_::_,[],h=>h.elim
theorem O5.len{α:Type}{e:Wr α}{S:Nat->Prop}{w:World}:∀{m:List α} {xs:List MapEntry},O5 e S w m xs->xs.length=m.length
 | [],[],_=>rfl
 |_::_,_::_,⟨_,u⟩=>by simp[u.len]
 | [],_::_,h=>h.elim
 |_::_,[],h=>h.elim
theorem O5.get{α:Type}{e:Wr α}{S:Nat->Prop}{w:World}:∀{m:List α} {xs:List MapEntry},O5 e S w m xs->∀{i:Nat} {k:α} {x:MapEntry},m[i]? =some k->xs[i]? =some x->e.val k S w x.key
 | [],[],_,i,k,x,h,_=>by simp at h
 |_::_,_::_,⟨z,A⟩,i,k,x,h,u=>by
  cases i with
  |zero=>simp at h u;subst h;subst u;exact z
  |succ i=>exact A.get (by simpa using h) (by simpa using u)
 | [],_::_,h,_,_,_,_,_=>h.elim
 |_::_,[],h,_,_,_,_,_=>h.elim
theorem O5.push{α:Type}{e:Wr α}{S:Nat->Prop}{w:World}{k:α}{x:MapEntry}(h1:e.val k S w x.key):∀{m:List α} {xs:List MapEntry},O5 e S w m xs->O5 e S w (m++[k]) (xs++[x])
 | [],[],_=>⟨h1,trivial⟩
 |_::_,_::_,⟨u,z⟩=>⟨u,O5.push h1 z⟩
 | [],_::_,h=>h.elim
 |_::_,[],h=>h.elim
theorem O5.modify{α:Type}{e:Wr α}{S:Nat->Prop}{w:World}{f:MapEntry->MapEntry}:∀{m:List α} {xs:List MapEntry} {i:Nat},O5 e S w m xs->(∀k x,m[i]? =some k->xs[i]? =some x->e.val k S w (f x).key)->O5 e S w m (xs.modify i f)
 | [],[],i,_,_=>by simp[O5]
 |_::_,_::_,i,⟨B,u⟩,h=>by
  cases i with
  |zero=>exact⟨h _ _ rfl rfl,u⟩
  |succ i=>exact⟨B,u.modify fun k x z A=>h k x (by simpa using z) (by simpa using A)⟩
 | [],_::_,_,h,_=>h.elim
 |_::_,[],_,h,_=>h.elim
theorem Ua{α:Type}[DecidableEq α]{n:Nat}{P:Program}{T:TypeId}{e:Wr α}(hn:n<=10000)(he:T8 n P T e){S S':Nat->Prop}{w1 w2:World}{k:α}{cs:List Value}(hk:e.ok k S' w2 cs)(w:World):
  ∀(m:List α) (es:List MapEntry) (i:Nat),O5 e S w1 m es->(Instr.findAsking T (e.pk cs) es i).run P w= .ok ((kp m k).bind fun j=>(es[j]?).map fun x=>(i+j,x.val)) w
 | [],[],i,_=>by simp[Instr.findAsking,kp]
 |a::m,x::xs,i,⟨⟨C,D,E⟩,F⟩=>by
  obtain⟨r,A,B⟩:=he 10000 hn w S' S w2 w1 k a cs C hk D;rw[<-E] at A;have z:(Op.equal T (e.pk cs) x.key).run P w= .ok r w:=A;cases r with
  |true=>
   have u:=B.1 rfl;simp[Instr.findAsking,z,kp,u]
  |false=>
   have u:¬a=k:=fun h=>by have:=B.2 h.symm;cases this
   have:=Ua hn he hk w m xs (i+1) F;simp only[Instr.findAsking,Sem.run_bind,z,Result.andThen_ok,O2,ZW,this,kp,WA u];cases kp m k with
   |none=>rfl
   |some j=>simp[aDs,aDf 1 j]
 | [],_::_,_,h=>h.elim
 |_::_,[],_,h=>h.elim
theorem GI{α:Type}[DecidableEq α]{n l:Nat}{E:TypeId}{P:Program}{T:TypeId}{e:Wr α}(hn:n<=10000)(hT:∀w,(underlying T).run P w= .ok (.array l E) w)(he:T8 n P T e){S S':Nat->Prop}{w1 w2:World}{k:α}{cs:List Value}(hk:e.ok k S' w2 cs)(w:World)
  (m:List α) (es:List MapEntry) (h:O5 e S w1 m es):(Instr.findKey T (e.pk cs) es).run P w= .ok ((kp m k).bind fun j=>(es[j]?).map fun x=>(j,x.val)) w:=by
 match m,es,h with
 | [],[],_=>simp[Instr.findKey,hT,Instr.findNow,kp]
 |q::m,x::xs,h=>
  have u:=Ua hn he hk w (q::m) (x::xs) 0 h;simp only[za] at u;simp only[Instr.findKey,Sem.run_bind,hT,Result.andThen_ok,Instr.findNow,Instr.sameNow,u]
def ga{α:Type}(e:Wr α):Prop:=∀(x:α) (S S':Nat->Prop) (w w':World) (v v':Value),e.val x S w v->e.val x S' w' v'->Instr.sameBits 10000 v v'=true
theorem AD{k:IntKind}{S S':Nat->Prop}{w w':World}:∀{xs:List Int} {cs ds:List Value},(Wr.int k).YU xs S w cs->(Wr.int k).YU xs S' w' ds->ds=cs/\∀c∈cs,∃n,c= .int k n
 | [],_,_,h,z=>by simp only[Wr.YU] at h z;subst h;subst z;exact⟨rfl,by simp⟩
 |x::xs,_,_,⟨c,d,A,F,G⟩,⟨H,M,I,K,L⟩=>by
  obtain⟨D,E⟩:=AD G L;have B:c=[.int k x]:=F.1;have C:H=[.int k x]:=K.1;subst B;subst C;subst D;refine⟨by rw[A,I],?_⟩;rw[A];intro q u;rcases K9.1 u with u | u
  ·exact⟨x,by simpa using u⟩
  ·exact E q u
theorem ga.arr{k:IntKind}{m:Nat}:ga (Wr.arr m (Wr.int k)):=by
 rintro x S F w G v H ⟨I,h,rfl⟩ ⟨C,D,rfl⟩;obtain⟨rfl,A⟩:=AD h.2 D.2;have B:∀l:List Value,(∀c∈l,∃n,c= .int k n)->(l.zip l).all (fun (x,y)=>Instr.sameBits 9999 x y)=true:=by
  intro l z;rw[j4];rintro⟨a,b⟩ u;have:a=b:=by
   clear z A
   induction l with
   |nil=>simp at u
   |cons y l E=>
    rcases m5.1 u with h | h
    ·simp only[ak] at h;rw[h.1,h.2]
    ·exact E h
  subst this;obtain⟨n,rfl⟩:=z a (List.of_mem_zip u).1;simp[Instr.sameBits]
 have:=B C A;simp only[Wr.pk,Wr.arr,ZU];show Instr.sameBits (9999+1) _ _=true;simp only[Instr.sameBits,BEq.rfl,aEp];simpa using this
structure ma {α κ:Type} (fr:Bool) (ke:Wr κ) (T2:TypeId) (e:Wr α) (m:List (κ×List α)) (o:Option Nat) (S:Nat->Prop) (w:World) (x:Nat->Prop) (b:Nat) (es:List MapEntry) (ck:Nat):Prop where
 keys:O5 ke S w (m.map (·.1)) es
 rows:Rws T2 e (m.map (·.2)) o S w x (some b) (es.map (·.val))
 born:fr=true->ck=es.length/\∀(j:Nat) (q:MapEntry),es[j]? =some q->q.born=j
theorem ma.mono{α κ:Type}{fr:Bool}{ke:Wr κ}{T2:TypeId}{e:Wr α}{m:List (κ×List α)}{o:Option Nat}{S S':Nat->Prop}{w w':World}{x x':Nat->Prop}{b:Nat}{es:List MapEntry}{ck:Nat}
  (h:ma fr ke T2 e m o S w x b es ck) (hE:Ext S S' w w') (hx:∀b,x b->x' b) (hb:∀b,x b->w'.heap[b]? =w.heap[b]?):ma fr ke T2 e m o S' w' x' b es ck:=
 ⟨h.keys.mono hE,⟨h.rows.len,fun j xs q u A z=>(h.rows.ok j xs q u A z).mono hE (fun b B=>hb b (h.rows.own j q b u z B).1),fun j q k u A z=>⟨hx _ (h.rows.own j q k u A z).1,(h.rows.own j q k u A z).2⟩,h.rows.inj⟩,h.born⟩
def DE.S7{α κ:Type}(fr:Bool)(ke:Wr κ)(T2:TypeId)(e:Wr α):DE (List (κ×List α)×Option Nat) where
 ok q S w u l:=∃b z A,u.v= .map (some b)/\w.heap[b]? =some (.map z A)/\ma fr ke T2 e q.1 q.2 S w u.x b z.toList A/\∀j,q.2=some j->(z.toList.map (·.val))[j]? =l.head?
 mono:=by
  rintro q S I w K u l ⟨b,z,A,B,E,F,G⟩ H C;exact⟨b,z,A,B,by rw[C b (.inl (by rw[B];rfl))];exact E,F.mono H (fun _ h=>h) (fun D h=>C D (.inr h)),G⟩
def Rw{κ α:Type}[DecidableEq κ](m:List (κ×List α))(k:κ):Option (List (κ×List α)×Nat×List α):=
 if m.length<=140737488355328 then some (match kp (m.map (·.1)) k with | none=>(m++[(k,[])],m.length,[]) | some i=>(m,i,((m[i]?).map (·.2)).getD [])) else none
def wF{κ β:Type}(m:List (κ×β))(i:Nat)(v:β):List (κ×β):=m.modify i fun p=>(p.1,v)
theorem GJ{κ β:Type}{m:List (κ×β)}{i:Nat}{v:β}:(wF m i v).map (·.1)=m.map (·.1):=by
 apply yz;intro j;simp only[wF,ka,aB6];cases m[j]? <;>simp;split<;>rfl
theorem GL{κ β:Type}{m:List (κ×β)}{i:Nat}{v:β}:(wF m i v).map (·.2)=(m.map (·.2)).set i v:=by
 apply yz;intro j;simp only[wF,ka,aB6,aCp,jx];by_cases u:j<m.length
 ·rw[D3 u];by_cases h:i=j<;>simp[h,u]
 ·rw[X3 (by omega)];by_cases h:i=j<;>simp[h];omega
def Wr.U9{κ β:Type}(ke:Wr κ)(f:Wr β):Wr (List (κ×β)) where
 n:=1
 agg:=false
 ok m S w cs:=(m=[]/\cs=[.map none])\/∃b u z,cs=[.map (some b)]/\b<w.heap.size/\¬S b/\w.heap[b]? =some (.map u z)/\Wv ke f S w m u.toList
 len h:=by rcases h with⟨_,h⟩|⟨b,u,z,h,_⟩<;>rw[h]<;>rfl
 one _:=rfl
 cell h c hc:=by rcases h with⟨_,h⟩|⟨b,u,z,h,_⟩<;>rw[h] at hc<;>simp at hc<;>subst hc<;>rfl
 mono h k:=by
  rcases h with⟨h,C⟩|⟨b,u,z,D,A,B,E,F⟩
  ·exact .inl ⟨h,C⟩
  ·exact .inr ⟨b,u,z,D,O3 A k.size,(k.F4 b A B).2,by rw[(k.F4 b A B).1];exact E,zL k F⟩
theorem Z.U9{κ β:Type}(ke:Wr κ)(f:Wr β):∀S w,(Wr.U9 ke f).ok [] S w [.map none]:=fun _ _=> .inl ⟨rfl,rfl⟩
section
variable {F:WV}{σ:AS}{d:Option Tmp}{ty:TypeId}{p:String}{af:Array Edge}{gd:Option (Nat×Bool)}{x y z:Operand}{κ α:Type}{ke:Wr κ}{e:Wr α}{T2:TypeId}{m:List (κ×List α)}{i j:Nat}
theorem Frz.S7{fr:Bool}:Frz (DE.S7 fr ke T2 e) (m,none) (Wr.U9 ke (Wr.sl e)) m:=by
 rintro S S' w u ⟨b,H,ck,E,F,⟨h3,I,_⟩,_⟩ K L;have M:∀(A:List (κ×List α)) (el:List MapEntry),O5 ke S w (A.map (·.1)) el->(∀(j:Nat) (C:List α) (v:Value),(A.map (·.2))[j]? =some C->(el.map (·.val))[j]? =some v->ZM T2 e C S w v/\∀b,YN v=some b->u.x b)->Wv ke (Wr.sl e) S' w A el:=by
  intro A
  induction A with
  |nil=>intro el z _;cases el with
   |nil=>trivial
   |cons q el=>exact z.elim
  |cons q A ih=>
   intro el z h;cases el with
   |nil=>exact z.elim
   |cons v el=>
    obtain⟨G,U⟩:=h 0 q.2 v.val rfl rfl;obtain⟨V,X⟩:=z;obtain⟨q1,q2⟩:=q;obtain⟨ad,c,hs⟩:=G.slice;refine⟨gO V K,⟨[v.val],Ri (ρ:=fun _=> .of undef) (u:= .of v.val) (T:=T2) G K fun b D=>L b (.inr (U b (pD.1 D))),by simp[Wr.pk,Wr.sl]⟩,ih el X fun j O P Q B=>h (j+1) O P (by simpa using Q) (by simpa using B)⟩
 have z:=M m H.toList h3 fun j C v R B=>⟨I.ok j C v (by simp) R B,fun b D=>(I.own j v b (by simp) B D).1⟩;have N:b<w.heap.size:=by
  rcases K3 b w.heap.size with h | h
  ·exact h
  ·rw[zd h] at F;cases F
 refine⟨.inr ⟨b,H,ck,by rw[E],N,L b (.inl (by rw[E];rfl)),F,z⟩,by rw[E];rfl⟩
theorem Ub{T:TypeId}(i:Nat)(ke:Wr κ)(T2:TypeId)(e:Wr α):JO F ⟨d,.makeMap T none,ty,p,af,gd⟩ σ (.ref i) [(i,.dp (DE.S7 true ke T2 e) ([],none) [])]:=by
 intro ρ S a w K;refine VJ.value (w':=w.alloc (.map #[] 0)) (v:= .map (some w.heap.size)) (by simp[execOp,Instr.makeMap]) ?_;refine zO (.map (some w.heap.size)) (lF _ _) rfl ?_ ?_ ?_
 ·intro b z;simp[YN] at z;subst z;exact⟨YO _,by simp⟩
 ·intro A ρ' h _;exact⟨_,#[],0,rfl,heap_alloc_new _ _,⟨trivial,⟨rfl,fun j xs q _ u=>by simp at u,fun j q k _ u=>by simp at u,fun j B q C k _ _ u=>by simp at u⟩,fun _=>⟨rfl,fun j q h=>by simp at h⟩⟩,fun j h=>by cases h⟩
 ·intro A ρ' _ hi _;simp only[Slot.ok];exact⟨by rw[hi];exact .inr ⟨_,rfl⟩,hi.symm⟩
theorem Xo{β:Type}[DecidableEq κ]{n n' l:Nat}{M KT VT E:TypeId}{f:Wr β}{m:List (κ×β)}{k:κ}{u:β}{zv:Value}(hx:dD σ.g x=some (.v (Wr.U9 ke f) m))(hy:dD σ.g y=some (.v ke k))
  (hM:∀w,(underlying M).run F.P w= .ok (.map KT VT) w) (hT:∀w,(underlying KT).run F.P w= .ok (.array l E) w) (he:T8 n F.P KT ke) (hn:Nat.ble n 10000=true) (hk:n5 n' F.P KT ke) (I7:Nat.ble n' 10000=true)
  (hz:∀w,(zeroValue VT).run F.P w= .ok zv w) (dy:∀S w,f.val u S w zv):JO F ⟨d,.lookup M x y false,ty,p,af,gd⟩ σ (.v f ((fK m k).getD u)) []:=by
 intro ρ S a w K;have z:=K.slot x (by simp[Op.operands]) _ hx;have h:=K.slot y (by simp[Op.operands]) _ hy;simp only[Slot.ok] at z h;obtain⟨G,h,C⟩:=h;obtain⟨V,z,H⟩:=z;rcases z with⟨rfl,rfl⟩|⟨b,L,X,rfl,_,_,R,T⟩
 ·have A:=hk 10000 (w7 I7) true w S w k G h;refine VJ.value (w':=w) (v:=zv) ?_ (XJ.same (by simp only[Slot.ok];exact dy _ _));have B:a.eval x= .map none:=H;simp[execOp,B,C,Instr.lookup,hM,A,hz,Instr.findKey,hT,Instr.findNow]
 ·have B:a.eval x= .map (some b):=H;obtain⟨r,I,N,O⟩:=Is (w7 hn) hT he h w m L.toList T;have A:=hk 10000 (w7 I7) L.isEmpty w S w k G h;have D:=MapKept.run_getObj_map (P:=F.P) R;cases hm:fK m k with
  |none=>
   have:=N hm;subst this;refine VJ.value (w':=w) (v:=zv) ?_ (XJ.same (by simp only[Slot.ok];exact dy _ _));simp[execOp,B,C,Instr.lookup,hM,D,A,I,hz]
  |some U=>
   obtain⟨j,v,rfl,Q⟩:=O U hm;refine VJ.value (w':=w) (v:=v) ?_ (XJ.same (by simp only[Slot.ok];exact Q));simp[execOp,B,C,Instr.lookup,hM,D,A,I]
theorem Uc[DecidableEq κ]{n n' l:Nat}{M KT VT E:TypeId}{k:κ}{r:List (κ×List α)×Nat×List α}(j:Nat)(hm:Rw m k=some r)(hx:dD σ.g x=some (.ref i))(hd:aX σ.d i=some (.dp (DE.S7 true ke T2 e) (m,none) []))(hy:dD σ.g y=some (.v ke k))
  (hM:∀w,(underlying M).run F.P w= .ok (.map KT VT) w) (hT:∀w,(underlying KT).run F.P w= .ok (.array l E) w) (he:T8 n F.P KT ke) (hn:Nat.ble n 10000=true) (hk:n5 n' F.P KT ke) (I7:Nat.ble n' 10000=true) (E3:ga ke)
  (hz:∀w,(zeroValue VT).run F.P w= .ok (.slice none 0 0) w) (hf:σ.free [(j,.arr T2 e r.2.2)]=true) (ZP:gN d F.N=true):
  JM F ⟨d,.mapEntry M x y,ty,p,af,gd⟩ σ ⟨iO d (.WC [.ref j,.v (Wr.int .i64) (r.2.1:Int)]) σ.g,(j,.arr T2 e r.2.2)::(i,.dp (DE.S7 true ke T2 e) (r.1,some r.2.1) [j])::σ.d⟩:=by
 rintro a w ⟨⟨ρ,hc,hs⟩,m9,YR⟩;have K:=cI hc hs (Op.mapEntry M x y).operands;obtain⟨h1,⟨b,B,ck,h3,h4,A,_⟩,_⟩:=yO K (x:=x) (by simp[Op.operands]) hx hd;have U:=K.slot y (by simp[Op.operands]) _ hy;simp only[Slot.ok] at U;have gn:=U;obtain⟨cs,U,h7⟩:=U;have h8:=GI (w7 hn) hT he U w (m.map (·.1)) B.toList A.keys;have ni:=hk 10000 (w7 I7) false w _ w k cs U;have hg:=MapKept.run_getObj_map (P:=F.P) h4;have oz:=fun o=>MapKept.run_setObj_map (P:=F.P) o h4;have cj:=kV hf (i:=j) (en:= .arr T2 e r.2.2) (by simp[aX]);have y4:j≠i:=fun e=>by subst e;rw[cj.2.1] at hd;cases hd
 obtain⟨sy,bd⟩:=A.born rfl;have V:B.toList.length=m.length:=by simpa using A.keys.len
 unfold Rw at hm;split at hm
 case isFalse=>cases hm
 rename_i l3;have hm:=pT hm;obtain⟨G,aa,v,H5,C5,sm,ax,T,J9,a2⟩:∃(G:Array MapEntry) (aa:Nat) (v:Value),(execOp a.eval ⟨d,.mapEntry M x y,ty,p,af,gd⟩).run F.P w= .ok (.value (.tuple #[v,.int .i64 (r.2.1:Int)])) { w with heap:=w.heap.setIfInBounds b (.map G aa) }/\
   (∃a c,v= .slice a r.2.2.length c)/\(∀S' w',Ext (Un F.S0 ρ σ.d) S' w w'->O5 ke S' w' (r.1.map (·.1)) G.toList)/\G.toList.length=r.1.length/\(G.toList.map (·.val))[r.2.1]? =some v/\
   ((v= .slice none 0 0/\r.2.2=[]/\(∀q,q≠r.2.1->r.1[q]? =m[q]?/\(G.toList.map (·.val))[q]? =(B.toList.map (·.val))[q]?))\/(m[r.2.1]?.map (·.2)=some r.2.2/\r.1=m/\G.toList.map (·.val)=B.toList.map (·.val)))/\
   (aa=G.toList.length/\∀(j:Nat) (q:MapEntry),G.toList[j]? =some q->q.born=j):=by
  cases xw:kp (m.map (·.1)) k with
  |none=>
   rw[xw] at hm h8;simp only[Option.bind_none] at h8;simp only at hm;subst hm;refine⟨B.push { key:=a.eval y,val:= .slice none 0 0,born:=ck },ck+1,.slice none 0 0,?_,⟨none,0,rfl⟩,?_,?_,?_,.inl ⟨rfl,rfl,fun q z=>?_⟩,?_,?_⟩
   ·have:ck=m.length:=by rw[sy,V]
    simp[execOp,h1,h3,h7,Instr.mapEntry,hM,hg,ni,h8,oz,hz,goInt,this]
   ·intro S' w' L;rw[aDk,aCq];exact(A.keys.mono L).push (gO gn L)
   ·simp[V]
   ·simp[<-V]
   ·rw[aDk,aCq];have I:q≠m.length:=z;rcases K3 q m.length with h | h
    ·rw[aBu h,aBu (by simpa[V] using h)];exact⟨rfl,rfl⟩
    ·rw[X3 (by simp;omega),X3 (by omega),X3 (by simp at V ⊢;omega),X3 (by simp at V ⊢;omega)];exact⟨rfl,rfl⟩
   ·simp[sy]
   ·intro q x z;rw[aDk] at z;rcases K3 q B.toList.length with h | h
    ·rw[aBu h] at z;exact bd q x z
    ·rw[aDo h] at z;have h0:q - B.toList.length=0:=by
      rcases aEh (q - B.toList.length) with h | h
      ·exact h
      ·rw[X3 (by simp at h ⊢;omega)] at z;cases z
     rw[h0] at z;simp at z;subst z;show ck=q;omega
  |some q=>
   rw[xw] at hm h8;simp only at hm;subst hm;obtain⟨k1,k2⟩:=GH xw;have am:q<m.length:=by simpa using k1
   have k3:q<B.toList.length:=by omega
   have ad:q<B.size:=by simpa using k3
   have k5:B.toList[q]? =some B[q]:=by simp[ad]
   simp only[cM,k5,pw] at h8;have k6:B[q]? =some B[q]:=aBt ad;have ay:ke.val k (Un F.S0 ρ σ.d) w B[q].key:=A.keys.get k2 k5;have az:=E3 k _ _ _ _ _ _ ay gn;have XY:(Instr.keyThatStays B[q].key (a.eval y)).run F.P w= .ok (a.eval y) w:=by simp[Instr.keyThatStays,az]
   have jh:=bd q _ k5;have ft:=A.rows.ok q (m[q].2) B[q].val (by simp) (by simp[am]) (by simp[ad]);have an:m[q]? =some m[q]:=D3 am;refine⟨B.modify q fun e=>{ e with key:=a.eval y },ck,B[q].val,?_,?_,?_,?_,?_,.inr ⟨?_,rfl,?_⟩,?_,?_⟩
   ·simp[execOp,h1,h3,h7,Instr.mapEntry,hM,hg,ni,h8,oz,goInt,k6,jh];rw[<-h7,XY];simp[oz]
   ·simp only[an,pw,yy];exact ft.slice
   ·intro S' w' L;rw[aCh];exact(A.keys.mono L).modify fun k' x aw R=>by
     rw[k2] at aw;cases aw;exact gO gn L
   ·simpa using V
   ·rw[aCh,ka,aB6,k5];simp
   ·simp[an]
   ·rw[aCh];apply yz;intro Q;simp only[ka,aB6];cases B.toList[Q]? <;>simp;split<;>rfl
   ·simpa using sy
   ·intro Q x' I;rw[aCh,aB6] at I;cases R:B.toList[Q]? with
    |none=>rw[R] at I;cases I
    |some y'=>
     rw[R] at I;have:=bd Q y' R;simp only[Option.map_eq_map,pw,A7] at I;subst I;split<;>exact this
 obtain⟨av,cv,ZF⟩:=C5;have C6:r.2.1<r.1.length:=by
  rw[<-ax];rcases K3 r.2.1 G.toList.length with h | h
  ·exact h
  ·rw[X3 (by simpa using h)] at T;cases T
 have a0:Cw .i64 (r.2.1:Int):=by
  have:r.1.length<=m.length+1:=by
   rcases J9 with⟨_,_,h⟩|⟨_,h,_⟩
   ·rcases K3 (m.length+1) r.1.length with C | C
    ·have H:=(h (m.length) );have jn:=(h (m.length+1));by_cases jl:m.length=r.2.1
     ·have:=(jn (by omega)).1;rw[D3 C,X3 (by omega)] at this;cases this
     ·have:=(H jl).1;rw[D3 (by omega),X3 (by omega)] at this;cases this
    ·exact C
   ·rw[h];omega
  exact Cz (n:=r.2.1) (by omega)
 have l8:=MapKept.heap_set (o':= .map G aa) h4;have bc:g9 (some b) w { w with heap:=w.heap.setIfInBounds b (.map G aa) }:=⟨by simp,fun k _ hk=>l8.2 k (fun e=>hk (by rw[e])),rfl,rfl,rfl⟩;refine VJ.value H5 ?_;have u6:∀c,YN v=some c->(ρ i).x c/\c≠b:=by
  intro c u;rcases J9 with⟨rfl,_⟩|⟨_,_,h⟩
  ·simp[YN] at u
  ·rw[h] at T;obtain⟨k1,k2⟩:=A.rows.own _ v c (by simp) T u;exact⟨k1,fun e=>k2 (by rw[e])⟩
 let ρ':Nat->LV:=fun l=>if l=j then .of v else if l=i then ⟨(ρ i).v,fun b=>(ρ i).x b/\YN v≠some b⟩ else ρ l
 have X:ρ' j= .of v:=WJ rfl;have ri:ρ' i=⟨(ρ i).v,fun b=>(ρ i).x b/\YN v≠some b⟩:=by show (if i=j then _ else _)=_;rw[WA (fw y4),WJ rfl]
 have O:∀l,l≠j->l≠i->ρ' l=ρ l:=fun l h1 h2=>by show (if l=j then _ else _)=_;rw[WA h1,WA h2]
 have rv:∀l,l≠j->(ρ' l).v=(ρ l).v:=fun l h1=>by
  by_cases h2:l=i
  ·subst h2;rw[ri]
  ·rw[O l h1 h2]
 have hl:∀l en,aX ((j,.arr T2 e r.2.2)::(i,.dp (DE.S7 true ke T2 e) (r.1,some r.2.1) [j])::σ.d) l=some en->(l=j/\en= .arr T2 e r.2.2)\/(l=i/\en= .dp (DE.S7 true ke T2 e) (r.1,some r.2.1) [j])\/(l≠j/\l≠i/\aX σ.d l=some en):=by
  intro l en h;rcases Hg h with h |⟨h0,h⟩
  ·exact .inl h
  ·rcases Hg h with h |⟨A,h⟩
   ·exact .inr (.inl h)
   ·exact .inr (.inr ⟨h0,A,h⟩)
 have ZD:∀l en b,aX ((j,.arr T2 e r.2.2)::(i,.dp (DE.S7 true ke T2 e) (r.1,some r.2.1) [j])::σ.d) l=some en->qS (ρ' l) b->∃l0 YT,aX σ.d l0=some YT/\qS (ρ l0) b:=by
  intro l en b h u;rcases hl l en h with⟨rfl,rfl⟩|⟨rfl,rfl⟩|⟨A,U,h7⟩
  ·rw[X,pD] at u;exact⟨i,_,hd,.inr (u6 b u).1⟩
  ·rw[ri,Mh] at u;exact⟨l,_,hd,u.imp id And.left⟩
  ·rw[O l A U] at u;exact⟨l,en,h7,u⟩
 have xz:YN (ρ i).v=some b:=by rw[h3];rfl
 have P5:∀b,qS (ρ' j) b->qS (ρ' i) b->False:=by
  intro b' u D;rw[X,pD] at u;rw[ri,Mh] at D;rcases D with D | D
  ·rw[xz] at D;exact(u6 b' u).2 (pT D).symm
  ·exact D.2 u
 have S8:∀l en b,l≠i->aX σ.d l=some en->qS (ρ l) b->¬qS (ρ' j) b/\¬qS (ρ' i) b:=by
  intro l en b aq M5 u;refine⟨fun h=>?_,fun h=>?_⟩
  ·rw[X,pD] at h;exact aq (hc.inj l i en _ b M5 hd u (.inr (u6 b h).1))
  ·rw[ri,Mh] at h;exact aq (hc.inj l i en _ b M5 hd u (h.imp id And.left))
 obtain⟨q1,q2⟩:=hc.step bc (fun c u=>⟨i,_,hd,.inl (by rw[xz];exact u)⟩) (d':=(j,.arr T2 e r.2.2)::(i,.dp (DE.S7 true ke T2 e) (r.1,some r.2.1) [j])::σ.d) (ρ':=ρ') (fun l en b h u=> .inr (ZD l en b h u)) (by
  intro l l' en ab b h h' u D;rcases hl l en h with⟨rfl,rfl⟩|⟨rfl,rfl⟩|⟨g5,g6,g7⟩<;>rcases hl l' ab h' with⟨rfl,rfl⟩|⟨rfl,rfl⟩|⟨ah,yi,ai⟩
  ·rfl
  ·exact(P5 b u D).elim
  ·rw[O l' ah yi] at D;exact((S8 l' ab b yi ai D).1 u).elim
  ·exact(P5 b D u).elim
  ·rfl
  ·rw[O l' ah yi] at D;exact((S8 l' ab b yi ai D).2 u).elim
  ·rw[O l g5 g6] at u;exact((S8 l en b g6 g7 u).1 D).elim
  ·rw[O l g5 g6] at u;exact((S8 l en b g6 g7 u).2 D).elim
  ·rw[O l g5 g6] at u;rw[O l' ah yi] at D;exact hc.inj l l' en ab b g7 ai u D) (by
  intro L l en h;have E3:∀c,c≠b->(w.heap.setIfInBounds b (.map G aa))[c]? =w.heap[c]? :=l8.2;rcases hl l en h with⟨rfl,rfl⟩|⟨rfl,rfl⟩|⟨yh,vd,aj⟩
  ·rw[X];show ZM T2 e r.2.2 _ _ v;rcases J9 with⟨C,H,_⟩|⟨C,_,jn⟩
   ·exact .inl ⟨H,C⟩
   ·rw[jn] at T;refine(A.rows.ok r.2.1 r.2.2 v (by simp) (by simpa using C) T).mono L (fun c u=>E3 c (u6 c u).2)
  ·rw[ri];refine⟨b,G,aa,h3,l8.1,⟨sm _ _ L,⟨by simp[ax],?_,?_,?_⟩,fun _=>a2⟩,fun q z=>?_⟩
   ·intro q xs vq ho R z;have N8:q≠r.2.1:=fun e=>ho (by rw[e]);have:(m.map (·.2))[q]? =some xs/\(B.toList.map (·.val))[q]? =some vq:=by
     rcases J9 with⟨_,_,C⟩|⟨_,C,H⟩
     ·obtain⟨H,jn⟩:=C q N8;rw[jn] at z;rw[ka,H,<-ka] at R;exact⟨R,z⟩
     ·rw[C] at R;rw[H] at z;exact⟨R,z⟩
    exact(A.rows.ok q xs vq (by simp) this.1 this.2).mono L (fun c u=>E3 c fun e=>by
     have:=(A.rows.own q vq c (by simp) this.2 u).2;exact this (by rw[e]))
   ·intro q vq c ho z u;have N8:q≠r.2.1:=fun e=>ho (by rw[e]);have I:(B.toList.map (·.val))[q]? =some vq:=by
     rcases J9 with⟨_,_,C⟩|⟨_,C,H⟩
     ·rw[<-(C q N8).2];exact z
     ·rw[<-H];exact z
    obtain⟨k1,k2⟩:=A.rows.own q vq c (by simp) I u;refine⟨⟨k1,fun ae=>?_⟩,k2⟩;rcases J9 with⟨C,_⟩|⟨_,C,H⟩
    ·rw[C] at ae;simp[YN] at ae
    ·rw[H] at T;exact N8 (A.rows.inj q r.2.1 vq v c (by simp) (by simp) I T u ae)
   ·intro q Q vq au c ho xp z ac u R2;have N8:q≠r.2.1:=fun e=>ho (by rw[e]);have a1:Q≠r.2.1:=fun e=>xp (by rw[e]);rcases J9 with⟨_,_,C⟩|⟨_,C,H⟩
    ·rw[(C q N8).2] at z;rw[(C Q a1).2] at ac;exact A.rows.inj q Q vq au c (by simp) (by simp) z ac u R2
    ·rw[H] at z ac;exact A.rows.inj q Q vq au c (by simp) (by simp) z ac u R2
   ·have:q=r.2.1:=by simpa using z.symm
    subst this;simp only[E5,aD0,List.head?_cons,X];exact T
  ·rw[O l yh vd]
   exact VH.VE (hc.own l en aj) L (fun q z=>rv q fun e'=>by subst e';exact cj.2.2 l en aj z) (fun c u=>E3 c fun e=>vd (hc.inj l i en _ c aj hd u (.inl (by rw[xz,e])))))
 refine⟨⟨ρ',q1,fun t s' S=>?_⟩,by rw[kW,m9],by cases d<;>exact YR⟩;have ap:∀t s,lk σ.g t=some s->s.ok ρ' (Un F.S0 ρ' ((j,.arr T2 e r.2.2)::(i,.dp (DE.S7 true ke T2 e) (r.1,some r.2.1) [j])::σ.d)) _ (a.tmps.getD t undef):=fun t s S=>
  Slot.VE s _ (hs t s S) q2 (fun q z=>rv q fun e'=>cj.1 t s S (e' ▸ z))
 cases d with
 |none=>exact ap t s' S
 |some q=>
  simp only[iO] at S;have WZ:q<a.tmps.size:=by rw[m9];exact w7 ZP
  rw[kX a q _ t WZ];rw[mC] at S;split at S
  ·rename_i A;cases S;rw[WJ A];simp only[Slot.ok];refine⟨[v,.int .i64 (r.2.1:Int)],rfl,v,[.int .i64 (r.2.1:Int)],rfl,?_,_,[],rfl,?_,rfl⟩
   ·simp only[Slot.ok];exact⟨by rw[X];exact .inl ⟨_,_,_,ZF⟩,by rw[X];rfl⟩
   ·simp only[Slot.ok];exact vL.2 ⟨rfl,a0⟩
  ·rename_i A;rw[WA A];exact ap t s' S
theorem LH[DecidableEq κ]{k:κ}{r:List (κ×List α)×Nat×List α}(h:Rw m k=some r):r.2.1<r.1.length:=by
 unfold Rw at h;split at h
 ·have h:=pT h;cases hk:kp (m.map (·.1)) k with
  |none=>rw[hk] at h;subst h;simp
  |some q=>rw[hk] at h;subst h;have:=(GH hk).1;simpa using this
 ·cases h
theorem Oq{M:TypeId}{ys:List α}{q:Nat}{ls:List Nat}(hq:q<m.length)(hx:dD σ.g x=some (.ref i))(hd:aX σ.d i=some (.dp (DE.S7 true ke T2 e) (m,some q) ls))(hy:dD σ.g y=some (.v (Wr.int .i64) (q:Int)))(hz:dD σ.g z=some (.ref j))(hj:aX σ.d j=some (.arr T2 e ys))(YS:Nat.beq i j=false):
  JM F ⟨none,.entryStore M x y z,ty,p,af,gd⟩ σ ⟨σ.g,(i,.dp (DE.S7 true ke T2 e) (wF m q ys,none) [])::wE σ.d j⟩:=by
 have y4:i≠j:=fun e=>by subst e;simp at YS
 rintro a w ⟨⟨ρ,H,hs⟩,m9,YR⟩;have K:=cI H hs (Op.entryStore M x y z).operands;obtain⟨h1,⟨b,E,ck,h3,h4,L,_⟩,_⟩:=yO K (x:=x) (by simp[Op.operands]) hx hd;have h6:=(fQ K (x:=y) (by simp[Op.operands]) hy).1;obtain⟨h7,ft,_⟩:=yO K (x:=z) (by simp[Op.operands]) hz hj;have ft:ZM T2 e ys (Un F.S0 ρ σ.d) w (ρ j).v:=ft;obtain⟨sy,bd⟩:=L.born rfl;have ae:E.toList.length=m.length:=by simpa using L.keys.len
 have S:q<E.size:=by
  have:E.toList.length=E.size:=by simp
  omega
 have hg:=MapKept.run_getObj_map (P:=F.P) h4;have oz:=fun o=>MapKept.run_setObj_map (P:=F.P) o h4;have jh:∀(j:Nat) (h:j<E.size),E[j].born=j:=fun j h=>bd j _ (by simp[h]);have ah:E.findIdx? (fun e=>(e.born:Int)==(q:Int))=some q:=by
  rw[Array.findIdx?_eq_some_iff_getElem];exact⟨S,by simp[jh q S],fun j hj=>by simp[jh j (by omega)];omega⟩
 obtain⟨N,sv⟩:∃N,N=E.modify q fun e=>{ e with val:=(ρ j).v }:=⟨_,rfl⟩;have H5:(execOp a.eval ⟨none,.entryStore M x y z,ty,p,af,gd⟩).run F.P w= .ok .skip { w with heap:=w.heap.setIfInBounds b (.map N ck) }:=by
  simp only[execOp,h1,h3,h6,h7,Instr.entryStore,Sem.run_bind,hg,Result.andThen_ok,asInt,asIntOf,Sem.run_pure,ah,oz,sv]
 have kv:N.toList.map (·.val)=(E.toList.map (·.val)).set q (ρ j).v:=by
  rw[sv,aCh];apply yz;intro B;simp only[ka,aB6,aCp,jx];by_cases I:B<E.toList.length
  ·rw[D3 I];by_cases hi:q=B<;>simp[hi];omega
  ·rw[X3 (by omega)];by_cases hi:q=B<;>simp[hi];simp at I;omega
 have sm:∀S' w',O5 ke S' w' (m.map (·.1)) E.toList->O5 ke S' w' (m.map (·.1)) N.toList:=by
  intro S' w' h;rw[sv,aCh];refine O5.modify h fun k x hk C=>?_;have:=h.get hk C;exact this
 have l8:=MapKept.heap_set (o':= .map N ck) h4;have bc:g9 (some b) w { w with heap:=w.heap.setIfInBounds b (.map N ck) }:=⟨by simp,fun k _ hk=>l8.2 k (fun e=>hk (by rw[e])),rfl,rfl,rfl⟩;have xz:YN (ρ i).v=some b:=by rw[h3];rfl
 have ab:∀c,qS (ρ j) c->c≠b:=fun c N0 e=>y4 (H.inj i j _ _ c hd hj (.inl (by rw[xz,e])) N0);refine VJ.skip H5 ?_;let ρ':Nat->LV:=fun l=>if l=i then ⟨(ρ i).v,fun b=>(ρ i).x b\/qS (ρ j) b⟩ else ρ l
 have ri:ρ' i=⟨(ρ i).v,fun b=>(ρ i).x b\/qS (ρ j) b⟩:=WJ rfl;have Q:∀l,l≠i->ρ' l=ρ l:=fun l h=>WA h;have rv:∀l,(ρ' l).v=(ρ l).v:=fun l=>by
  by_cases h2:l=i
  ·subst h2;rw[ri]
  ·rw[Q l h2]
 have hl:∀l A,aX ((i,.dp (DE.S7 true ke T2 e) (wF m q ys,none) [])::wE σ.d j) l=some A->(l=i/\A= .dp (DE.S7 true ke T2 e) (wF m q ys,none) [])\/(l≠i/\l≠j/\aX σ.d l=some A):=by
  intro l A h;rcases Hg h with h |⟨h0,h⟩
  ·exact .inl h
  ·rw[Lb] at h;split at h
   ·cases h
   ·rename_i h6;exact .inr ⟨h0,h6,h⟩
 have ZD:∀l A b,aX ((i,.dp (DE.S7 true ke T2 e) (wF m q ys,none) [])::wE σ.d j) l=some A->qS (ρ' l) b->∃l0 YT,aX σ.d l0=some YT/\qS (ρ l0) b:=by
  intro l A b h u;rcases hl l A h with⟨rfl,rfl⟩|⟨h6,_,h7⟩
  ·rw[ri,Mh] at u;rcases u with u | u | u
   ·exact⟨l,_,hd,.inl u⟩
   ·exact⟨l,_,hd,.inr u⟩
   ·exact⟨j,_,hj,u⟩
  ·rw[Q l h6] at u;exact⟨l,A,h7,u⟩
 have J9:∀l A b,l≠i->l≠j->aX σ.d l=some A->qS (ρ l) b->¬qS (ρ' i) b:=by
  intro l A b ac ai M5 u h;rw[ri,Mh] at h;rcases h with h | h | h
  ·exact ac (H.inj l i A _ b M5 hd u (.inl h))
  ·exact ac (H.inj l i A _ b M5 hd u (.inr h))
  ·exact ai (H.inj l j A _ b M5 hj u h)
 obtain⟨U,V⟩:=H.step bc (fun c u=>⟨i,_,hd,.inl (by rw[xz];exact u)⟩) (d':=(i,.dp (DE.S7 true ke T2 e) (wF m q ys,none) [])::wE σ.d j) (ρ':=ρ') (fun l A b h u=> .inr (ZD l A b h u)) (by
  intro l l' A aa b g g' u XS;rcases hl l A g with⟨rfl,rfl⟩|⟨g6,g7,g8⟩<;>rcases hl l' aa g' with⟨rfl,rfl⟩|⟨yi,aj,ad⟩
  ·rfl
  ·rw[Q l' yi] at XS;exact(J9 l' aa b yi aj ad XS u).elim
  ·rw[Q l g6] at u;exact(J9 l A b g6 g7 g8 u XS).elim
  ·rw[Q l g6] at u;rw[Q l' yi] at XS;exact H.inj l l' A aa b g8 ad u XS) (by
  intro hE l A g;have E3:∀c,c≠b->(w.heap.setIfInBounds b (.map N ck))[c]? =w.heap[c]? :=l8.2;rcases hl l A g with⟨rfl,rfl⟩|⟨g6,g7,g8⟩
  ·rw[ri];refine⟨b,N,ck,h3,l8.1,⟨?_,⟨?_,fun B xs v _ C D=>?_,fun B v c _ D u=>?_,fun U V v1 v2 c _ _ X R I0 R2=>?_⟩,fun _=>⟨by rw[sv];simpa using sy,fun B x' I=>?_⟩⟩,fun q hq=>by cases hq⟩
   ·show O5 ke _ _ ((wF m q ys).map (·.1)) _;rw[GJ];exact sm _ _ (L.keys.mono hE)
   ·rw[kv];simp[wF];simpa using ae
   ·have C:((wF m q ys).map (·.2))[B]? =some xs:=C;rw[GL] at C;rw[kv] at D;by_cases O:B=q
    ·subst O;have T:xs=ys:=by simpa[aCp,hq] using C.symm
     have G:v=(ρ j).v:=by
      rw[aBz (by simpa using S)] at D;exact(pT D).symm
     subst T;subst G;exact ft.mono hE (fun c u=>E3 c (ab c (.inl u)))
    ·rw[uf (fw O)] at C D;refine(L.rows.ok B xs v (by simpa using fun e=>O e.symm) C D).mono hE (fun c u=>E3 c fun e=>?_);exact(L.rows.own B v c (by simpa using fun e=>O e.symm) D u).2 (by rw[e])
   ·rw[kv] at D;by_cases O:B=q
    ·subst O;rw[aBz (by simpa using S)] at D;have G:=pT D;subst G;exact⟨.inr (.inl u),fun e=>ab c (.inl u) (pT e).symm⟩
    ·rw[uf (fw O)] at D;obtain⟨k1,k2⟩:=L.rows.own B v c (by simpa using fun e=>O e.symm) D u;exact⟨.inl k1,k2⟩
   ·rw[kv] at X R;by_cases T:U=q
    ·subst T;rw[aBz (by simpa using S)] at X;have e3:=pT X;subst e3;by_cases G:V=U
     ·exact G.symm
     ·rw[uf (fw G)] at R;obtain⟨k1,_⟩:=L.rows.own V v2 c (by simpa using fun e=>G e.symm) R R2;exact(y4 (H.inj l j _ _ c hd hj (.inr k1) (.inl I0))).elim
    ·rw[uf (fw T)] at X;by_cases G:V=q
     ·subst G;rw[aBz (by simpa using S)] at R;have e3:=pT R;subst e3;obtain⟨k1,_⟩:=L.rows.own U v1 c (by simpa using fun e=>T e.symm) X I0;exact(y4 (H.inj l j _ _ c hd hj (.inr k1) (.inl R2))).elim
     ·rw[uf (fw G)] at R;exact L.rows.inj U V v1 v2 c (by simpa using fun e=>T e.symm) (by simpa using fun e=>G e.symm) X R I0 R2
   ·rw[sv,aCh,aB6] at I;cases C:E.toList[B]? with
    |none=>rw[C] at I;cases I
    |some y'=>
     rw[C] at I;have:=bd B y' C;simp only[Option.map_eq_map,pw,A7] at I;subst I;split<;>exact this
  ·rw[Q l g6]
   exact VH.VE (H.own l A g8) hE (fun q _=>rv q) (fun c u=>E3 c fun e=>g6 (H.inj l i A _ c g8 hd u (.inl (by rw[xz,e])))))
 exact⟨⟨ρ',U,fun t s ht=>Slot.VE s _ (hs t s ht) V (fun q _=>rv q)⟩,m9,YR⟩
end
end Go.Sw
namespace Go.Sw
open Go Go.RowKit
section
variable {F:WV}{σ σ':AS}{ops:Array Oper}{OK:List (Nat×VH)->Prop}{os:List Oper}{its:List YZ}{d:Option Tmp}{ty:TypeId}{p:String}{af:Array Edge}{gd:Option (Nat×Bool)}{x y z:Operand}{κ α:Type}{ke:Wr κ}{e:Wr α}{T2:TypeId}{m:List (κ×List α)}{i:Nat}
theorem XF.mapEntry[DecidableEq κ]{n n' l:Nat}{M KT VT E:TypeId}{k:κ}{r:List (κ×List α)×Nat×List α}(g:GK ops σ.g ⟨d,.mapEntry M x y,ty,p,af,gd⟩ true)(j:Nat)(hm:Rw m k=some r)(hx:dD σ.g x=some (.ref i))(hd:aX σ.d i=some (.dp (DE.S7 true ke T2 e) (m,none) []))(hy:dD σ.g y=some (.v ke k))
  (hM:∀w,(underlying M).run F.P w= .ok (.map KT VT) w) (hT:∀w,(underlying KT).run F.P w= .ok (.array l E) w) (he:T8 n F.P KT ke) (hn:Nat.ble n 10000=true) (hk:n5 n' F.P KT ke) (I7:Nat.ble n' 10000=true) (E3:ga ke)
  (hz:∀w,(zeroValue VT).run F.P w= .ok (.slice none 0 0) w) (_:σ.free [(j,.arr T2 e r.2.2)]=true) (ZP:gN d F.N=true)
  (k:XF F ops OK os ⟨iO d (.WC [.ref j,.v (Wr.int .i64) (r.2.1:Int)]) σ.g,(j,.arr T2 e r.2.2)::(i,.dp (DE.S7 true ke T2 e) (r.1,some r.2.1) [j])::σ.d⟩ its σ'):
  XF F ops OK (⟨d,.mapEntry M x y,ty,p,af,gd⟩::os) σ (⟨.WC [.ref j,.v (Wr.int .i64) (r.2.1:Int)],[(j,.arr T2 e r.2.2),(i,.dp (DE.S7 true ke T2 e) (r.1,some r.2.1) [j])],[(j,.arr T2 e r.2.2)],Kq σ.g ⟨d,.mapEntry M x y,ty,p,af,gd⟩,[]⟩::its) σ':=
 .mv (nw:=[(j,.arr T2 e r.2.2),(i,.dp (DE.S7 true ke T2 e) (r.1,some r.2.1) [j])]) (dl:=[]) g ZP (fun σ2 h u=>Uc j hm ((h.ev (by simp[Op.operands])).trans hx) ((h.y9 (x:=x) (by simp[Op.operands]) hx (by simp[Slot.YF])).trans hd) ((h.ev (by simp[Op.operands])).trans hy) hM hT he hn hk I7 E3 hz u ZP) k
end
def kG:Wr Unit where
 n:=0
 agg:=true
 ok _ _ _ cs:=cs=[]
 len h:=by rw[h];rfl
 one h:=by cases h
 cell h c hc:=by rw[h] at hc;simp at hc
 mono h _:=h
theorem Mm{F:WV}{σ:AS}{o:Oper}{new:List (Nat×VH)}(h:JO F o σ (.agg []) new):JO F o σ (.v kG ()) new:=by
 intro ρ S a w K;refine(h ρ S a w K).mono ?_;rintro v G ⟨ρ',C,D,z,E⟩;refine⟨ρ',C,D,?_,E⟩;simp only[Slot.ok] at z ⊢;obtain⟨A,B,u⟩:=z;have u:A=[]:=u;subst u;exact⟨[],rfl,B⟩
def LI:Wr Unit where
 n:=1
 agg:=false
 ok _ _ _ cs:=cs=[.nilIface]
 len h:=by rw[h];rfl
 one _:=rfl
 cell h c hc:=by rw[h] at hc;simp at hc;subst hc;rfl
 mono h _:=h
def vN{α β:Type}(T:TypeId)(e:Wr α)(r:Wr β)(hn:r.n=1)(_ha:r.agg=false):Wr (α ⊕ β) where
 n:=1
 agg:=false
 ok q S w cs:=match q with | .inl x=>∃u,cs=[.iface T (e.pk u)]/\e.ok x S w u | .inr y=>r.ok y S w cs
 len {q S w cs} h:=by
  cases q with
  |inl x=>obtain⟨u,h,_⟩:=h;rw[h];rfl
  |inr y=>rw[r.len h,hn]
 one _:=rfl
 cell {q S w cs} h:=by
  cases q with
  |inl x=>obtain⟨u,h,_⟩:=h;intro c z;rw[h] at z;simp at z;subst z;rfl
  |inr y=>exact r.cell h
 mono {q S S' w w' cs} h k:=by
  cases q with
  |inl x=>obtain⟨u,h,A⟩:=h;exact⟨u,h,e.mono A k⟩
  |inr y=>exact r.mono h k
def bk{α β:Type}(T:TypeId)(e:Wr α)(z:α)(f:Wr β)(q:β):Prop:=∀S w v,e.val z S w v->f.val q S w (.iface T v)
theorem bk.here{α β:Type}{T:TypeId}{e:Wr α}{z:α}{r:Wr β}{hn:r.n=1}{ha:r.agg=false}:bk T e z (vN T e r hn ha) (.inl z):=by
 rintro S w v ⟨u,h,rfl⟩;exact⟨_,⟨u,rfl,h⟩,rfl⟩
theorem bk.there{α β γ:Type}{T T':TypeId}{e:Wr α}{e':Wr γ}{z:α}{r:Wr β}{hn:r.n=1}{ha:r.agg=false}{q:β}(h:bk T e z r q):bk T e z (vN T' e' r hn ha) (.inr q):=by
 intro S w v u;obtain⟨A,B,C⟩:=h S w v u;exact⟨A,B,by rw[C];simp[Wr.pk,vN,ha]⟩
section
variable {F:WV}{σ:AS}{d:Option Tmp}{ty:TypeId}{p:String}{af:Array Edge}{gd:Option (Nat×Bool)}{x:Operand}
theorem Hk{α β:Type}{T:TypeId}{fs:Array Field}{e:Wr α}{z:α}{f:Wr β}{q:β}(hx:dD σ.g x=some (.v e z))(hT:∀w,(underlying T).run F.P w= .ok (.struct fs) w)(hI:bk T e z f q):JO F ⟨d,.makeInterface T x,ty,p,af,gd⟩ σ (.v f q) []:=by
 intro ρ S a w K;have h:=K.slot x (by simp[Op.operands]) _ hx;simp only[Slot.ok] at h;refine VJ.value (w':=w) (v:= .iface T (a.eval x)) ?_ (XJ.same (by simp only[Slot.ok];exact hI _ _ _ h));simp[execOp,Instr.makeInterface,hT]
end
def r5{β:Type}(P:Program)(name:String)(f:Wr β)(q:β)(ss:List Slot)(res:Slot)(new:List (Nat×VH)):Prop:=
 ∀S w v,f.val q S w v->∃T u g s0,v= .iface T u/\(∀w,(method (P.types.size+Made.depth) T u name).run P w= .ok (g,u) w)/\(∀args w,(callFunc g args).run P w= .ok (.enter g args) w)/\(∀ρ,Slot.ok ρ S w s0 u)/\VS P g (s0::ss) res new
section
variable {P:Program}{name:String}{ss:List Slot}{res:Slot}{new:List (Nat×VH)}
theorem r5.here{α β:Type}{T:TypeId}{g:FuncId}{e:Wr α}{z:α}{r:Wr β}{hn:r.n=1}{ha:r.agg=false}(hm:∀u w,(method (P.types.size+Made.depth) T u name).run P w= .ok (g,u) w)(hc:∀args w,(callFunc g args).run P w= .ok (.enter g args) w)
  (h:VS P g (.v e z::ss) res new):r5 P name (vN T e r hn ha) (.inl z) ss res new:=by
 rintro S w v ⟨C,⟨A,rfl,B⟩,rfl⟩;exact⟨T,e.pk A,g,.v e z,rfl,hm _,hc,fun ρ=>by simp only[Slot.ok];exact⟨A,B,rfl⟩,h⟩
theorem r5.there{β γ:Type}{T':TypeId}{e':Wr γ}{r:Wr β}{hn:r.n=1}{ha:r.agg=false}{q:β}(h:r5 P name r q ss res new):r5 P name (vN T' e' r hn ha) (.inr q) ss res new:=by
 rintro S w v ⟨u,z,rfl⟩;exact h S w _ ⟨u,z,by simp[Wr.pk,vN,ha]⟩
end
section
variable {F:WV}{σ:AS}{d:Option Tmp}{ty:TypeId}{p:String}{af:Array Edge}{gd:Option (Nat×Bool)}{x:Operand}
theorem CK{β:Type}{name:String}{f:Wr β}{q:β}{xs:List Operand}{ts:Array TypeId}{ss:List Slot}{res:Slot}(hx:dD σ.g x=some (.v f q))(hc:r5 F.P name f q ss res [])(ha:N5 σ false xs ss):
  JO F ⟨d,.call ⟨.invoke x name,xs.toArray,ts⟩,ty,p,af,gd⟩ σ res []:=by
 intro ρ S a w K;have z:=K.slot x (by simp[Op.operands,Call.operands]) _ hx;simp only[Slot.ok] at z;obtain⟨T,u,g,I,C,D,E,G,H⟩:=hc _ _ _ z;have A:=ha.spec (ys:=(Op.call ⟨.invoke x name,xs.toArray,ts⟩).operands) (by intro x hx;simp[Op.operands,Call.operands,hx]) K;have B:(execOp a.eval ⟨d,.call ⟨.invoke x name,xs.toArray,ts⟩,ty,p,af,gd⟩).run F.P w= .ok (.enter g (u::xs.map a.eval).toArray) w:=by
  simp[execOp,resolve,C,invoke,callMethod,D,E];exact aCa (by simp)
 refine VJ.enter B ?_;refine(H S w _ ρ K.low (by simp only[aW];exact⟨u,_,rfl,G ρ,A⟩)).mono ?_;rintro e L ⟨v,rfl,h⟩;exact⟨v,rfl,h⟩
end
end Go.Sw
namespace Go.Sw
open Go Go.RowKit
def vU{α β:Type}(o:Option α)(n:Option β)(s:α->Option β):Option β:=match o with | none=>n | some z=>s z
theorem vO{α β:Type}{o:Option α}{n:Option β}{s:α->Option β}{r:β}(h:o=none)(k:vU o n s=some r):n=some r:=by subst h;exact k
theorem vP{α β:Type}{o:Option α}{n:Option β}{s:α->Option β}{r:β}{z:α}(h:o=some z)(k:vU o n s=some r):s z=some r:=by subst h;exact k
section
variable {F:WV}{σ:AS}{d:Option Tmp}{ty:TypeId}{p:String}{af:Array Edge}{gd:Option (Nat×Bool)}{x:Operand}
end
section
variable {F:WV}{ops:Array Oper}{OK:List (Nat×VH)->Prop}{os:List Oper}{σ σ2 σ':AS}{its:List YZ}{d:Option Tmp}{ty:TypeId}{p:String}{af:Array Edge}{gd:Option (Nat×Bool)}{o:Oper}
theorem Arg.loc{x:Operand}{s:Slot}{l:Bool}(h:Arg σ l x s)(hL:Loc ops o σ σ2)(hm:x∈o.op.operands):Arg σ2 l x s:=fun ρ S a w K=>
 h ρ S a w ⟨K.low,fun y u s z=>K.slot y u s (by
  have:y=x:=by simpa using u
  subst this;rw[hL.ev hm];exact z),fun y u s z i A B C=>K.y9 y u s (by
   have:y=x:=by simpa using u
   subst this;rw[hL.ev hm];exact z) i A B (by
    have:y=x:=by simpa using u
    subst this;rw[hL.y9 hm z A];exact C)⟩
theorem w9.loc{r:Nat->Nat}{xs:List Operand}{l:List Slot}(h:w9 σ r xs l)(hL:Loc ops o σ σ2)(hm:∀x∈xs,x∈o.op.operands):w9 σ2 r xs l:=by
 induction h with
 |nil=>exact .nil
 |cons z _ A=>exact .cons (z.loc hL (hm _ Y9)) (A fun x u=>hm x (Y8 _ u))
theorem w6.loc{r A:Nat->Nat}{ds:List (Nat×VH)}(h:w6 σ r A ds)(hd:∀l∈ds.map (fun x=>r x.1),aX σ2.d l=aX σ.d l):w6 σ2 r A ds:=by
 induction h with
 |nil=>exact .nil
 |box z _ B=>exact .box (by rw[hd _ (by simp)];exact z) (B fun l u=>hd l (by simp at u ⊢;exact .inr u))
 |arr z _ B=>exact .arr (by rw[hd _ (by simp)];exact z) (B fun l u=>hd l (by simp at u ⊢;exact .inr u))
 |mp z _ B=>exact .mp (by rw[hd _ (by simp)];exact z) (B fun l u=>hd l (by simp at u ⊢;exact .inr u))
 |dp z _ B=>exact .dp (by rw[hd _ (by simp)];exact z) (B fun l u=>hd l (by simp at u ⊢;exact .inr u))
theorem YX.loc{r A:Nat->Nat}{ds D:List (Nat×VH)}{K:List Nat}(h:YX σ r A ds D K)(hd:∀l∈K,aX σ2.d l=aX σ.d l):YX σ2 r A ds D K:=by
 induction h with
 |nil=>exact .nil
 |box C _ u z=>exact .box (by rw[hd _ Y9];exact C) (z fun l B=>hd l (Y8 _ B)) u
 | R4 _ u z=>exact .R4 (z hd) u
 |arr _ u z=>exact .arr (z hd) u
 |mp _ u z=>exact .mp (z hd) u
 |dp _ u z=>exact .dp (z hd) u
theorem XF.G4{f:FuncId}{xs:List Operand}{ts:Array TypeId}{ss:List Slot}{res:Slot}{XX VP:(Nat->Nat)->List (Nat×VH)}{D:List (Nat×VH)}{K H:List Nat}(g:GK ops σ.g ⟨d,.call ⟨.value (.func f),xs.toArray,ts⟩,ty,p,af,gd⟩ true)(r:Nat->Nat)(hr:∀i j,r i=r j->i=j)
  (hc:∀A,VG F.P f ss (XX A) res (VP A)) (XK:∀args w,(callFunc f args).run F.P w= .ok (.enter f args) w) (ha:w9 σ r xs ss) (y3:∀A,w6 σ r A (XX A)) (B8:∀A,YX σ r A (VP A) D K)
  (hH:∀A,(XX A).map (fun x=>r x.1)=H) (hDK:D.all (fun x=> !iD x.1 H || iD x.1 K)=true) (_:On σ H D=true) (YK:∀A,kY res (VP A)=true) (gq:K.all (fun k=>iD k H)=true) (ZP:gN d F.N=true)
  (k:XF F ops OK os ⟨iO d (res.map r) σ.g,D++iV σ.d H⟩ its σ'):
  XF F ops OK (⟨d,.call ⟨.value (.func f),xs.toArray,ts⟩,ty,p,af,gd⟩::os) σ (⟨res.map r,D,D.filter (fun x=> !iD x.1 H),Kq σ.g ⟨d,.call ⟨.value (.func f),xs.toArray,ts⟩,ty,p,af,gd⟩++H,H⟩::its) σ':=by
 refine .mvx (nw:=D) (fr:=D.filter (fun x=> !iD x.1 H)) (dl:=H) (ex:=H) g ZP (fun σ2 M I O=>?_) k;have L:∀x∈D,iD x.1 H=true->iD x.1 K=true:=fun x h C=>by
  have:=j4.1 hDK x h;simpa[C] using this
 refine uD r hr hc XK (ha.loc M fun x h=>by simp[Op.operands,Call.operands,h]) (fun A=>(y3 A).loc fun l z=>I l (by rw[<-hH A];exact z)) (fun A=>(B8 A).loc fun l z=>I l (iX.1 (j4.1 gq l z))) hH ?_ ?_ YK gq ZP
 ·have E:∀l,(!iD l H || iD l K || !iD l (D.map (·.1)))=true:=by
   intro l;cases u:iD l H with
   |false=>simp
   |true=>
    cases h2:iD l (D.map (·.1)) with
    |false=>simp
    |true=>
     obtain⟨x,h,rfl⟩:=bh.1 (iX.1 h2);simp[L x h u]
  unfold Bb;simp only[D1,j4];exact⟨fun y _ l _=>E l,fun y _ l _=>E l⟩
 ·unfold On;rw[j4];intro x h;cases C:iD x.1 H with
  |true=>simp
  |false=>
   have u:=j4.1 O x (yw.2 ⟨h,by simp[C]⟩);simp only[D1,j4] at u;have G:∀l:List Nat,(!l.contains x.1)=true->(!iD x.1 l)=true:=by
    intro l z;cases h2:iD x.1 l with
    |false=>rfl
    |true=>have:=iX.1 h2;simp at z;exact absurd this z
   simp only[yx,D1,j4];exact .inr ⟨fun y B=>⟨(u.2 y B).1,G _ (u.2 y B).2⟩,fun y B=>G _ (u.1 y B)⟩
end
end Go.Sw
namespace Go.Sw
open Go Go.RowKit
def Gb{κ β:Type}[DecidableEq κ](m:List (κ×β))(k:κ):List (κ×β):=match kp (m.map (·.1)) k with | some q=>m.eraseIdx q | none=>m
section
variable {F:WV}{σ:AS}{d:Option Tmp}{ty:TypeId}{p:String}{af:Array Edge}{gd:Option (Nat×Bool)}{x y z:Operand}{κ α:Type}{ke:Wr κ}{e:Wr α}{T2:TypeId}{m:List (κ×List α)}{i j:Nat}{fr:Bool}
end
section
variable {F:WV}{σ σ':AS}{ops:Array Oper}{OK:List (Nat×VH)->Prop}{os:List Oper}{its:List YZ}{d:Option Tmp}{ty:TypeId}{p:String}{af:Array Edge}{gd:Option (Nat×Bool)}{x y:Operand}{κ α:Type}{ke:Wr κ}{e:Wr α}{T2:TypeId}{m:List (κ×List α)}{i:Nat}{fr:Bool}
end
end Go.Sw
namespace Go.Sw
open Go Go.RowKit
def Wr.l7(a:Nat):Wr Unit where
 n:=1
 agg:=false
 ok _ _ _ cs:=cs=[.pointer (some ⟨a,0,none⟩)]
 len h:=by rw[h];rfl
 one _:=rfl
 cell h c hc:=by rw[h] at hc;simp at hc;subst hc;rfl
 mono h _:=h
def Wr.pt{α:Type}(e:Wr α):Wr α where
 n:=1
 agg:=false
 ok x S w cs:=∃b u z,cs=[.pointer (some ⟨b,u,none⟩)]/\b<w.heap.size/\¬S b/\VQ w b u z/\e.ok x S w z
 len h:=by obtain⟨b,u,z,h,_⟩:=h;rw[h];rfl
 one _:=rfl
 cell h c hc:=by obtain⟨b,u,z,h,_⟩:=h;rw[h] at hc;simp at hc;subst hc;rfl
 mono h k:=by
  obtain⟨b,u,z,C,A,B,D,E⟩:=h;exact⟨b,u,z,C,O3 A k.size,(k.F4 b A B).2,D.mono A B k,e.mono E k⟩
def Wr.K1{α β:Type}(g:Nat)(ef:Wr α)(ec:Wr β):Wr (α×β) where
 n:=1
 agg:=false
 ok q S w cs:=∃u z,cs=[.func (.func g) u.toArray z.toArray]/\ef.ok q.1 S w u/\ec.ok q.2 S w z
 len h:=by obtain⟨u,z,h,_⟩:=h;rw[h];rfl
 one _:=rfl
 cell h c hc:=by obtain⟨u,z,h,_⟩:=h;rw[h] at hc;simp at hc;subst hc;rfl
 mono h k:=by obtain⟨u,z,h,A,B⟩:=h;exact⟨u,z,h,ef.mono A k,ec.mono B k⟩
def qH{α β:Type}(f:Wr α)(r:Wr β)(h1:f.n=1)(_h2:f.agg=false)(h3:r.n=1)(_h4:r.agg=false):Wr (α ⊕ β) where
 n:=1
 agg:=false
 ok q S w cs:=match q with | .inl x=>f.ok x S w cs | .inr y=>r.ok y S w cs
 len {q S w cs} h:=by
  cases q with
  |inl x=>rw[f.len h,h1]
  |inr y=>rw[r.len h,h3]
 one _:=rfl
 cell {q S w cs} h:=by
  cases q with
  |inl x=>exact f.cell h
  |inr y=>exact r.cell h
 mono {q S S' w w' cs} h k:=by
  cases q with
  |inl x=>exact f.mono h k
  |inr y=>exact r.mono h k
def dj{α β:Type}(e:Wr α)(z:α)(f:Wr β)(q:β):Prop:=∀S w v,e.val z S w v->f.val q S w v
theorem dj.self{α:Type}{e:Wr α}{z:α}:dj e z e z:=fun _ _ _ h=>h
theorem dj.l{α β γ:Type}{e:Wr γ}{z:γ}{f:Wr α}{r:Wr β}{h1:f.n=1}{h2:f.agg=false}{h3:r.n=1}{h4:r.agg=false}{q:α}(h:dj e z f q):dj e z (qH f r h1 h2 h3 h4) (.inl q):=by
 intro S w v u;obtain⟨A,B,C⟩:=h S w v u;exact⟨A,B,by rw[C];simp[Wr.pk,qH,h2]⟩
theorem dj.r{α β γ:Type}{e:Wr γ}{z:γ}{f:Wr α}{r:Wr β}{h1:f.n=1}{h2:f.agg=false}{h3:r.n=1}{h4:r.agg=false}{q:β}(h:dj e z r q):dj e z (qH f r h1 h2 h3 h4) (.inr q):=by
 intro S w v u;obtain⟨A,B,C⟩:=h S w v u;exact⟨A,B,by rw[C];simp[Wr.pk,qH,h4]⟩
section
variable {F:WV}{σ:AS}{pb:Option Nat}{s:Slot}{d:Option Tmp}{ty:TypeId}{p:String}{af:Array Edge}{gd:Option (Nat×Bool)}{x y z:Operand}
def R7{α:Type}(σ:AS)(xs:List Operand)(e:Wr α)(v:α):Prop:=∀ρ S a w,m7 σ xs.toArray ρ S a w->e.ok v S w (xs.map a.eval)
theorem R7.nil:R7 σ [] kG ():=fun _ _ _ _ _=>rfl
theorem R7.l7{i c:Nat}{T:TypeId}{l:List Slot}(hx:dD σ.g x=some (.ptr i 0))(he:aX σ.d i=some (.box T l (some c))):R7 σ [x] (Wr.l7 c) ():=by
 intro ρ S a w K;have h:=K.slot x (by simp) _ hx;simp only[Slot.ok] at h;obtain⟨⟨b,B⟩,A⟩:=h;have u:=(K.y9 x (by simp) _ hx i (by simp[Slot.YF]) _ he).1;have z:=u.2 c rfl;show [a.eval x]=_;rw[A,z];rfl
theorem R7.XR{α:Type}{e:Wr α}{v:α}(hx:dD σ.g x=some (.XR e v)):R7 σ [x] (Wr.pt e) v:=by
 intro ρ S a w K;have h:=K.slot x (by simp) _ hx;simp only[Slot.ok] at h;obtain⟨b,u,z,A,B⟩:=h;exact⟨b,u,z,by simp[A],B⟩
theorem R7.cons{α β:Type}{e:Wr α}{e':Wr β}{v:α}{v':β}{xs:List Operand}(h:R7 σ [x] e v)(k:R7 σ xs e' v'):R7 σ (x::xs) (Wr.pr e e') (v,v'):=by
 intro ρ S a w K
 exact⟨[a.eval x],xs.map a.eval,rfl,h ρ S a w ⟨K.low,fun q u=>K.slot q (by simp at u ⊢;exact .inl u),fun q u=>K.y9 q (by simp at u ⊢;exact .inl u)⟩,
  k ρ S a w ⟨K.low,fun q u=>K.slot q (by simp at u ⊢;exact .inr u),fun q u=>K.y9 q (by simp at u ⊢;exact .inr u)⟩⟩
theorem nW{α β γ:Type}{g:Nat}{ef:Wr α}{ec:Wr β}{u:α}{v:β}{f:Wr γ}{q:γ}{xs ys:List Operand}(hf:R7 σ xs ef u)(hc:R7 σ ys ec v)(hI:dj (Wr.K1 g ef ec) (u,v) f q):
  JO F ⟨d,.makeFunc (.func g) xs.toArray ys.toArray,ty,p,af,gd⟩ σ (.v f q) []:=by
 intro ρ S a w K;have z:=hf ρ S a w ⟨K.low,fun r h=>K.slot r (by simp[Op.operands] at h ⊢;exact .inl h),fun r h=>K.y9 r (by simp[Op.operands] at h ⊢;exact .inl h)⟩;have A:=hc ρ S a w ⟨K.low,fun r h=>K.slot r (by simp[Op.operands] at h ⊢;exact .inr h),fun r h=>K.y9 r (by simp[Op.operands] at h ⊢;exact .inr h)⟩;refine VJ.value (w':=w) (v:= .func (.func g) (xs.map a.eval).toArray (ys.map a.eval).toArray) (by simp[execOp,Instr.makeFunc]) (XJ.same ?_);simp only[Slot.ok];exact hI _ _ _ ⟨_,⟨_,_,rfl,z,A⟩,rfl⟩
theorem Ix{T:TypeId}{i:Nat}(l:Nat)(hx:dD σ.g x=some (.ptr i 0))(hil:Nat.beq i l=false):JO F ⟨d,.box T x,ty,p,af,gd⟩ σ (.ptr l 0) [(l,.box T [.ptr i 0])]:=by
 intro ρ S a w K;have h:=K.slot x (by simp[Op.operands]) _ hx;have B:=h;simp only[Slot.ok] at h;obtain⟨⟨b,u⟩,A⟩:=h;rw[u] at A;have z:a.eval x= .pointer (some ⟨b,0,none⟩):=A;refine VJ.value (w':=w.alloc (.cells [a.eval x].toArray T)) (v:= .pointer (some ⟨w.heap.size,0,none⟩)) (by simp[execOp,Instr.box,xK,z,Value.cells]) ?_;refine XJ.box l ?_ (by simp[dU,Slot.YF,hil]);exact⟨[a.eval x],[],rfl,by simp only[Slot.YW];exact⟨⟨b,u⟩,by rw[z,u];rfl⟩,rfl⟩
theorem AE{i:Nat}{T:TypeId}{l:List Slot}{cs:List Code}{Q:Exit->Act->World->Prop}(he:aX σ.d i=some (.box T l none))(h:∀c,W F cs ⟨σ.g,(i,.box T l (some c))::σ.d⟩ Q):W F cs σ Q:=by
 intro a w S;obtain⟨⟨ρ,A,ZF⟩,hz,YR⟩:=S;have R:=A.own i _ he;obtain⟨⟨b,aa,L,h2,h3⟩,h4⟩:=R;refine h b a w ⟨⟨ρ,?_,?_⟩,hz,YR⟩
 ·have E:∀G z,aX ((i,VH.box T l (some b))::σ.d) G=some z->(G=i/\z= .box T l (some b))\/(G≠i/\aX σ.d G=some z):=fun G z h=>Hg h;have H:Un F.S0 ρ ((i,VH.box T l (some b))::σ.d)=Un F.S0 ρ σ.d:=by
   funext k;refine propext ⟨?_,?_⟩
   ·rintro (h |⟨j,z,u,D⟩)
    ·exact .inl h
    ·rcases E j z u with⟨rfl,_⟩|⟨_,u⟩
     ·exact .inr ⟨j,_,he,D⟩
     ·exact .inr ⟨j,_,u,D⟩
   ·rintro (h |⟨j,z,u,D⟩)
    ·exact .inl h
    ·by_cases K:j=i
     ·subst K;exact .inr ⟨j,.box T l (some b),by rw[cK,WJ rfl],D⟩
     ·exact .inr ⟨j,z,by rw[cK,WA (fw K)];exact u,D⟩
  refine⟨A.low,A.size,A.frame,A.os,A.tape,A.output,?_,?_,?_,?_⟩
  ·intro j z u;show z.ok ρ (Un F.S0 ρ ((i,VH.box T l (some b))::σ.d)) w (ρ j);rw[H];rcases E j z u with⟨rfl,rfl⟩|⟨_,u⟩
   ·exact⟨⟨b,aa,L,h2,h3⟩,fun c N0=>by cases N0;exact L⟩
   ·exact A.own j z u
  ·intro j z B u C;rcases E j z u with⟨rfl,rfl⟩|⟨_,u⟩
   ·exact A.fresh j _ B he C
   ·exact A.fresh j z B u C
  ·intro j U z V B u X I C;rcases E j z u with⟨M,_⟩|⟨_,N⟩<;>rcases E U V X with⟨O,_⟩|⟨_,P⟩
   ·rw[M,O]
   ·subst M;exact A.inj _ _ _ _ B he P I C
   ·subst O;exact A.inj _ _ _ _ B N he I C
   ·exact A.inj _ _ _ _ B N P I C
  ·intro j z B u C;rcases E j z u with⟨rfl,rfl⟩|⟨_,u⟩
   ·exact A.apart j _ B he C
   ·exact A.apart j z B u C
 ·intro t s ht
  have H:Ext (Un F.S0 ρ σ.d) (Un F.S0 ρ ((i,VH.box T l (some b))::σ.d)) w w:=⟨YO _,fun k _ hk=>⟨rfl,fun h=>hk (by
   rcases h with h |⟨j,z,u,D⟩
   ·exact .inl h
   ·rcases Hg u with⟨rfl,_⟩|⟨_,u⟩
    ·exact .inr ⟨j,_,he,D⟩
    ·exact .inr ⟨j,_,u,D⟩)⟩⟩
  exact Slot.VE s _ (ZF t s ht) H (fun _ _=>rfl)
end
def R8{α:Type}(pins:List (Nat×Nat))(e:Wr α)(v:α)(ss:List Slot):Prop:=∀ρ S w cs,(∀p∈pins,(ρ p.1).v= .pointer (some ⟨p.2,0,none⟩))->e.ok v S w cs->aW ρ S w ss cs
theorem R8.nil{pins:List (Nat×Nat)}:R8 pins kG () []:=fun _ _ _ _ _ h=>h
theorem R8.l7{pins:List (Nat×Nat)}{i c:Nat}(h:(i,c)∈pins):R8 pins (Wr.l7 c) () [.ptr i 0]:=by
 intro ρ S w cs hp u;have u:cs=[.pointer (some ⟨c,0,none⟩)]:=u;subst u;have:=hp _ h;exact⟨_,[],rfl,by simp only[Slot.ok];exact⟨⟨c,this⟩,by rw[this];rfl⟩,rfl⟩
theorem R8.pt{pins:List (Nat×Nat)}{α:Type}{e:Wr α}{v:α}:R8 pins (Wr.pt e) v [.XR e v]:=by
 rintro ρ S w A B ⟨b,u,z,rfl,h⟩;exact⟨_,[],rfl,by simp only[Slot.ok];exact⟨b,u,z,rfl,h⟩,rfl⟩
theorem R8.pr{pins:List (Nat×Nat)}{α β:Type}{e:Wr α}{e':Wr β}{v:α}{v':β}{s s':List Slot}(h:R8 pins e v s)(k:R8 pins e' v' s'):R8 pins (Wr.pr e e') (v,v') (s++s'):=by
 rintro ρ S w C u ⟨c,z,rfl,A,B⟩;exact Ba (h ρ S w c u A) (k ρ S w z u B)
def VK{β:Type}(P:Program)(pins:List (Nat×Nat))(f:Wr β)(q:β)(XX:List (Nat×VH))(res:Slot)(VP:List (Nat×VH)):Prop:=
 ∀S w v,f.val q S w v->∃g fs gs ss,v= .func (.func g) fs.toArray gs.toArray/\(∀args w,(callFunc g args).run P w= .ok (.enter g args) w)/\(∀ρ,(∀p∈pins,(ρ p.1).v= .pointer (some ⟨p.2,0,none⟩))->aW ρ S w ss (fs++gs))/\VG P g ss XX res VP
section
variable {P:Program}{pins:List (Nat×Nat)}{XX VP:List (Nat×VH)}{res:Slot}
theorem VK.K1{α β:Type}{g:Nat}{ef:Wr α}{ec:Wr β}{q:α×β}{s s':List Slot}(h:R8 pins ef q.1 s)(k:R8 pins ec q.2 s')(hc:∀args w,(callFunc g args).run P w= .ok (.enter g args) w)(hm:VG P g (s++s') XX res VP):VK P pins (Wr.K1 g ef ec) q XX res VP:=by
 rintro S w v ⟨D,⟨z,A,rfl,B,C⟩,rfl⟩;exact⟨g,z,A,_,rfl,hc,fun ρ u=>Ba (h ρ S w z u B) (k ρ S w A u C),hm⟩
theorem VK.l{α β:Type}{f:Wr α}{r:Wr β}{h1:f.n=1}{h2:f.agg=false}{h3:r.n=1}{h4:r.agg=false}{q:α}(h:VK P pins f q XX res VP):VK P pins (qH f r h1 h2 h3 h4) (.inl q) XX res VP:=by
 rintro S w v ⟨u,z,A⟩;exact h S w v ⟨u,z,by rw[A];simp[Wr.pk,qH,h2]⟩
theorem VK.r{α β:Type}{f:Wr α}{r:Wr β}{h1:f.n=1}{h2:f.agg=false}{h3:r.n=1}{h4:r.agg=false}{q:β}(h:VK P pins r q XX res VP):VK P pins (qH f r h1 h2 h3 h4) (.inr q) XX res VP:=by
 rintro S w v ⟨u,z,A⟩;exact h S w v ⟨u,z,by rw[A];simp[Wr.pk,qH,h4]⟩
end
section
variable {F:WV}{σ:AS}{d:Option Tmp}{ty:TypeId}{p:String}{af:Array Edge}{gd:Option (Nat×Bool)}{x:Operand}
theorem CL{P:Program}{g:FuncId}{ts:Array TypeId}{a:Act}{w:World}{fs gs:List Value}(hx:a.eval x= .func (.func g) fs.toArray gs.toArray)(XK:∀args w,(callFunc g args).run P w= .ok (.enter g args) w):
  (execOp a.eval ⟨d,.call ⟨.value x,#[],ts⟩,ty,p,af,gd⟩).run P w= .ok (.enter g (fs++gs).toArray) w:=by
 simp[execOp,resolve,hx,Deferred.ofValue,invoke,XK]
def N4(σ:AS)(r:Nat->Nat):List (Nat×Nat)->Prop
 | []=>True
 |q::l=>(∃T s,aX σ.d (r q.1)=some (.box T s (some q.2)))/\N4 σ r l
theorem N4.at{σ:AS}{r:Nat->Nat}:∀{pins:List (Nat×Nat)},N4 σ r pins->∀q∈pins,∃T s,aX σ.d (r q.1)=some (.box T s (some q.2))
 |_::_,h,q,u=>by
  rcases m5.1 u with rfl | u
  ·exact h.1
  ·exact N4.at h.2 q u
theorem Mn{β:Type}{f:Wr β}{q:β}{ts:Array TypeId}{res:Slot}{XX VP:(Nat->Nat)->List (Nat×VH)}{D:List (Nat×VH)}{K H:List Nat}(pins:List (Nat×Nat))(r:Nat->Nat)(hr:∀i j,r i=r j->i=j)(hx:dD σ.g x=some (.v f q))(hp:N4 σ r pins)
  (hc:∀A,(∀p∈pins,A p.1=p.2)->VK F.P pins f q (XX A) res (VP A)) (y3:∀A,w6 σ r A (XX A)) (B8:∀A,YX σ r A (VP A) D K)
  (hH:∀A,(XX A).map (fun x=>r x.1)=H) (XY:Bb σ.g (iV σ.d H) H K D=true) (M4:On σ H D=true) (YK:∀A,kY res (VP A)=true) (gq:K.all (fun k=>iD k H)=true) (ZP:gN d F.N=true):
  JM F ⟨d,.call ⟨.value x,#[],ts⟩,ty,p,af,gd⟩ σ ⟨iO d (res.map r) σ.g,D++iV σ.d H⟩:=by
 rintro a w ⟨⟨ρ,z,V⟩,hz,YR⟩;let A:Nat->Nat:=fun i=>l7 (ρ (r i)).v
 have L:∀i b,(ρ (r i)).v= .pointer (some ⟨b,0,none⟩)->A i=b:=fun i b h=>by show l7 (ρ (r i)).v=b;rw[h];rfl
 have R:∀q∈pins,(ρ (r q.1)).v= .pointer (some ⟨q.2,0,none⟩):=fun q hq=>by
  obtain⟨T,s,h⟩:=hp.at q hq;exact(z.own _ _ h).2 _ rfl
 have C:=(y3 A).spec z.own L;have X:∀k,(Un F.S0 ρ σ.d k/\¬mN (fun i=>ρ (r i)) (XX A) k)->k<w.heap.size:=by
  rintro k ⟨h |⟨i,u,E,G⟩,_⟩
  ·exact O3 (z.low k h) z.size
  ·exact(z.fresh i u k E G).2
 have S:Un (fun k=>Un F.S0 ρ σ.d k/\¬mN (fun i=>ρ (r i)) (XX A) k) (fun i=>ρ (r i)) (XX A)=Un F.S0 ρ σ.d:=by
  funext k;refine propext ⟨fun h=>?_,fun h=>?_⟩
  ·rcases h with h |⟨i,u,E,G⟩
   ·exact h.1
   ·obtain⟨⟨O,B⟩,_⟩:=C i u E;exact .inr ⟨r i,O,B,G⟩
  ·by_cases I:mN (fun i=>ρ (r i)) (XX A) k
   ·exact .inr I
   ·exact .inl ⟨h,I⟩
 have ix:Ins (fun k=>Un F.S0 ρ σ.d k/\¬mN (fun i=>ρ (r i)) (XX A) k) (fun i=>ρ (r i)) w (XX A):=by
  refine⟨fun i u h=>?_,fun i u b h M=>?_,fun i u b h M h'=>h'.2 ⟨i,u,h,M⟩,fun i j u aa b hi hj bi bj=>?_⟩
  ·rw[S];exact(C i u h).2
  ·obtain⟨⟨O,B⟩,_⟩:=C i u h;exact(z.fresh _ _ b B M).2
  ·obtain⟨⟨O,B⟩,_⟩:=C i u hi;obtain⟨⟨bg,Q⟩,_⟩:=C j aa hj;exact hr _ _ (z.inj _ _ _ _ b B Q bi bj)
 have K:=cI z V (Op.call ⟨.value x,#[],ts⟩).operands;have U:=K.slot x (by simp[Op.operands,Call.operands]) _ hx;simp only[Slot.ok] at U;obtain⟨g,fs,gs,ss,E,G,B,Q⟩:=hc A (fun p gp=>L _ _ (R p gp)) _ _ _ U;refine VJ.enter (CL E G) ((Q _ w _ _ X ix (by rw[S];exact B _ R)).mono ?_);rintro e w' ⟨v,ρ',rfl,I⟩;exact⟨v,rfl,St.G4 hr z V hz YR L (y3 A) (B8 A) (hH A) XY M4 (YK A) gq ZP I⟩
theorem Iy{f:FuncId}{xs:List Operand}{ts:Array TypeId}{ss:List Slot}{res:Slot}{XX VP:(Nat->Nat)->List (Nat×VH)}{D:List (Nat×VH)}{K H:List Nat}(pins:List (Nat×Nat))(r:Nat->Nat)(hr:∀i j,r i=r j->i=j)(hp:N4 σ r pins)
  (hc:∀A,(∀p∈pins,A p.1=p.2)->VG F.P f ss (XX A) res (VP A)) (XK:∀args w,(callFunc f args).run F.P w= .ok (.enter f args) w) (ha:w9 σ r xs ss) (y3:∀A,w6 σ r A (XX A)) (B8:∀A,YX σ r A (VP A) D K)
  (hH:∀A,(XX A).map (fun x=>r x.1)=H) (XY:Bb σ.g (iV σ.d H) H K D=true) (M4:On σ H D=true) (YK:∀A,kY res (VP A)=true) (gq:K.all (fun k=>iD k H)=true) (ZP:gN d F.N=true):
  JM F ⟨d,.call ⟨.value (.func f),xs.toArray,ts⟩,ty,p,af,gd⟩ σ ⟨iO d (res.map r) σ.g,D++iV σ.d H⟩:=by
 rintro a w ⟨⟨ρ,z,R⟩,hz,YR⟩;let A:Nat->Nat:=fun i=>l7 (ρ (r i)).v
 have G:∀i b,(ρ (r i)).v= .pointer (some ⟨b,0,none⟩)->A i=b:=fun i b h=>by show l7 (ρ (r i)).v=b;rw[h];rfl
 have S:∀q∈pins,(ρ (r q.1)).v= .pointer (some ⟨q.2,0,none⟩):=fun q hq=>by
  obtain⟨T,s,h⟩:=hp.at q hq;exact(z.own _ _ h).2 _ rfl
 have B:=(y3 A).spec z.own G;have U:∀k,(Un F.S0 ρ σ.d k/\¬mN (fun i=>ρ (r i)) (XX A) k)->k<w.heap.size:=by
  rintro k ⟨h |⟨i,u,M,O⟩,_⟩
  ·exact O3 (z.low k h) z.size
  ·exact(z.fresh i u k M O).2
 have Q:Un (fun k=>Un F.S0 ρ σ.d k/\¬mN (fun i=>ρ (r i)) (XX A) k) (fun i=>ρ (r i)) (XX A)=Un F.S0 ρ σ.d:=by
  funext k;refine propext ⟨fun h=>?_,fun h=>?_⟩
  ·rcases h with h |⟨i,u,M,O⟩
   ·exact h.1
   ·obtain⟨⟨L,C⟩,_⟩:=B i u M;exact .inr ⟨r i,L,C,O⟩
  ·by_cases E:mN (fun i=>ρ (r i)) (XX A) k
   ·exact .inr E
   ·exact .inl ⟨h,E⟩
 have V:Ins (fun k=>Un F.S0 ρ σ.d k/\¬mN (fun i=>ρ (r i)) (XX A) k) (fun i=>ρ (r i)) w (XX A):=by
  refine⟨fun i u h=>?_,fun i u b h I=>?_,fun i u b h I h'=>h'.2 ⟨i,u,h,I⟩,fun i j u aa b hi hj bi bj=>?_⟩
  ·rw[Q];exact(B i u h).2
  ·obtain⟨⟨L,C⟩,_⟩:=B i u h;exact(z.fresh _ _ b C I).2
  ·obtain⟨⟨L,C⟩,_⟩:=B i u hi;obtain⟨⟨bg,h4⟩,_⟩:=B j aa hj;exact hr _ _ (z.inj _ _ _ _ b C h4 bi bj)
 have K:=cI z R (Op.call ⟨.value (.func f),xs.toArray,ts⟩).operands;have X:=ha.spec (ys:=(Op.call ⟨.value (.func f),xs.toArray,ts⟩).operands) (fun x hx=>by simp[Op.operands,Call.operands,hx]) K;refine VJ.enter (uA XK) ((hc A (fun p gp=>G _ _ (S p gp)) _ w _ _ U V (by rw[Q];exact X)).mono ?_);rintro e w' ⟨v,ρ',rfl,E⟩;exact⟨v,rfl,St.G4 hr z R hz YR G (y3 A) (B8 A) (hH A) XY M4 (YK A) gq ZP E⟩
end
theorem VK.at2{β:Type}{P:Program}{e:Nat->Nat->Wr β}{q:β}{XX VP:(Nat->Nat)->List (Nat×VH)}{res:Slot}(a p:Nat)(h:∀A:Nat->Nat,VK P [(9000,A 9000),(9100,A 9100)] (e (A 9000) (A 9100)) q (XX A) res (VP A)):
  ∀A:Nat->Nat,(∀z∈ [(9000,a),(9100,p)],A z.1=z.2)->VK P [(9000,a),(9100,p)] (e a p) q (XX A) res (VP A):=by
 intro A u;have B:A 9000=a:=u (9000,a) (by simp);have C:A 9100=p:=u (9100,p) (by simp);subst B;subst C;exact h A
theorem VG.at2{P:Program}{f:FuncId}{ss:Nat->Nat->List Slot}{XX VP:(Nat->Nat)->List (Nat×VH)}{res:Slot}(a p:Nat)(h:∀A:Nat->Nat,VG P f (ss (A 9000) (A 9100)) (XX A) res (VP A)):
  ∀A:Nat->Nat,(∀z∈ [(9000,a),(9100,p)],A z.1=z.2)->VG P f (ss a p) (XX A) res (VP A):=by
 intro A u;have B:A 9000=a:=u (9000,a) (by simp);have C:A 9100=p:=u (9100,p) (by simp);subst B;subst C;exact h A
end Go.Sw
namespace Go.Sw
open Go Go.RowKit
def U1{α:Type}(zs:List α)(lo hi m:Int):Option (List α):=if hi=m/\lo<hi then sub zs lo hi else none
theorem Iz{α:Type}{zs ys:List α}{lo hi m:Int}(h:U1 zs lo hi m=some ys):hi=m/\lo<hi/\sub zs lo hi=some ys:=by
 unfold U1 at h;split at h
 ·rename_i u;exact⟨u.1,u.2,h⟩
 ·cases h
theorem AF{α:Type}{zs ys:List α}{lo hi m:Int}(h:U1 zs lo hi m=some ys):ys≠ []:=by
 obtain⟨_,A,z⟩:=Iz h;obtain⟨a,b,c,rfl⟩:=gS z;intro u;have:=congrArg List.length u;simp at this;omega
theorem Ud{P:Program}{w:World}{n:Nat}{k:IntKind}{lo:Int}(h0:0<=lo)(h1:lo<=n):(Instr.sliceBounds false n n (some (.int k lo)) none none).run P w= .ok (lo.toNat,n,n) w:=by
 simp[Instr.sliceBounds,Instr.sliceBound,asIntOf,h0,h1]
theorem Ue{P:Program}{w:World}{n:Nat}{k k':IntKind}{hi:Int}(h0:0<=hi)(h1:hi<=n):(Instr.sliceBounds false n n none (some (.int k hi)) (some (.int k' hi))).run P w= .ok (0,hi.toNat,hi.toNat) w:=by
 have h:hi<=(hi.toNat:Int):=by omega
 simp only[Instr.sliceBounds,Instr.sliceBound,asIntOf,Sem.run_bind,Sem.run_pure,Result.andThen_ok,h0,h1,h,and_self,ZU]
theorem Xp{P:Program}{w:World}{U E:TypeId}{b off len m:Nat}{k:IntKind}{lo:Int}(h0:0<=lo)(h1:lo<len)(hU:∀w,(underlying U).run P w= .ok (.array len E) w)(hE:∀w,(sizeOf E).run P w= .ok m w):(Instr.sliceAt U (.pointer (some ⟨b,off,none⟩)) (some (.int k lo)) none none).run P w= .ok (.slice (some ⟨b,off+lo.toNat*m,none⟩) (len - lo.toNat) (len - lo.toNat)) w:=by
 have h:¬len=lo.toNat:=by omega
 have u:¬lo.toNat=len:=by omega
 simp[Instr.sliceAt,hU,hE,Instr.sureAddr,Ud h0 (show lo<=(len:Int) by omega),h,Addr.add_lit]
theorem Xq{P:Program}{w:World}{U E:TypeId}{b off len m:Nat}{k k':IntKind}{hi:Int}(h0:0<hi)(h1:hi<=len)(hU:∀w,(underlying U).run P w= .ok (.array len E) w)(hE:∀w,(sizeOf E).run P w= .ok m w):(Instr.sliceAt U (.pointer (some ⟨b,off,none⟩)) none (some (.int k hi)) (some (.int k' hi))).run P w= .ok (.slice (some ⟨b,off,none⟩) hi.toNat hi.toNat) w:=by
 have h:Addr.add ⟨b,off,none⟩ 0=⟨b,off,none⟩:=by rw[Addr.add_lit];rfl
 have u:¬hi.toNat=0:=by omega
 simp[Instr.sliceAt,hU,hE,Instr.sureAddr,Ue (aEc h0) h1,u,h]
section
variable {F:WV}{σ:AS}{d:Option Tmp}{ty:TypeId}{p:String}{af:Array Edge}{gd:Option (Nat×Bool)}{x y z:Operand}
theorem Xr{α:Type}{e:Wr α}{zs ys:List α}{U E:TypeId}{len:Nat}{lo:Int}{k:IntKind}(hs:U1 zs lo (len:Int) (len:Int)=some ys)(hx:dD σ.g x=some (.XR (Wr.arr len e) zs))(hy:dD σ.g y=some (.v (Wr.int k) lo))(hlen:Nat.ble len 4294967296=true)
  (hU:∀w,(underlying U).run F.P w= .ok (.array len E) w) (hE:∀w,(sizeOf E).run F.P w= .ok e.n w):JO F ⟨d,.slice U x (some y) none none,ty,p,af,gd⟩ σ (.v (Hh e) ys) []:=by
 intro ρ S a w K;have hlen:=w7 hlen;obtain⟨_,T,hs⟩:=Iz hs;obtain⟨H,s1,V,rfl⟩:=gS hs;have h:=K.slot x (by simp[Op.operands]) _ hx;have B:=(fQ K (x:=y) (by simp[Op.operands]) hy).1;simp only[Slot.ok] at h;obtain⟨b,u,X,I,L,M,N,h5,O⟩:=h;have z:((zs.take (len:Int).toNat).drop lo.toNat).length=len - lo.toNat:=by rw[R6,C0];omega
 have C:(Wr.sl e).val ((zs.take (len:Int).toNat).drop lo.toNat) S w (.slice (some ⟨b,u+lo.toNat*e.n,none⟩) (len - lo.toNat) (len - lo.toNat)):=
  sG.2 ⟨_,_,by rw[z],⟨by rw[z];omega,by rw[z];omega⟩,.inr ⟨b,u+lo.toNat*e.n,_,rfl,L,M,(N.take ((len:Int).toNat*e.n)).drop (lo.toNat*e.n),vT _ (sQ _ O)⟩⟩
 refine VJ.value (w':=w) (v:= .slice (some ⟨b,u+lo.toNat*e.n,none⟩) (len - lo.toNat) (len - lo.toNat)) ?_ (XJ.same (by
  simp only[Slot.ok];obtain⟨Q,R,A⟩:=C;refine⟨Q,⟨R,fun a l c G=>?_⟩,A⟩;subst G;have D:(Value.slice (some ⟨b,u+lo.toNat*e.n,none⟩) (len - lo.toNat) (len - lo.toNat))= .slice a l c:=A;injection D with _ e1 e2
  omega))
 simp[execOp,I,B,Xp H (show lo<(len:Int) by omega) hU hE]
theorem CM{α:Type}{e:Wr α}{zs ys:List α}{U E:TypeId}{len:Nat}{hi m:Int}{k k':IntKind}(hs:U1 zs 0 hi m=some ys)(hx:dD σ.g x=some (.XR (Wr.arr len e) zs))(hy:dD σ.g y=some (.v (Wr.int k) hi))(hz:dD σ.g z=some (.v (Wr.int k') m))(hlen:Nat.ble len 4294967296=true)
  (hU:∀w,(underlying U).run F.P w= .ok (.array len E) w) (hE:∀w,(sizeOf E).run F.P w= .ok e.n w):JO F ⟨d,.slice U x none (some y) (some z),ty,p,af,gd⟩ σ (.v (Hh e) ys) []:=by
 intro ρ S a w K;have hlen:=w7 hlen;obtain⟨rfl,L,hs⟩:=Iz hs;obtain⟨X,s1,s2,rfl⟩:=gS hs;have h:=K.slot x (by simp[Op.operands]) _ hx;have C:=(fQ K (x:=y) (by simp[Op.operands]) hy).1;have D:=(fQ K (x:=z) (by simp[Op.operands]) hz).1;simp only[Slot.ok] at h;obtain⟨b,u,ds,M,N,O,Q,h5,R⟩:=h;have A:((zs.take hi.toNat).drop (0:Int).toNat).length=hi.toNat:=by rw[R6,C0];simp only[Int.toNat_zero];omega
 have G:(Wr.sl e).val ((zs.take hi.toNat).drop (0:Int).toNat) S w (.slice (some ⟨b,u,none⟩) hi.toNat hi.toNat):=
  sG.2 ⟨_,_,by rw[A],⟨by rw[A];omega,by rw[A];omega⟩,.inr ⟨b,u,_,rfl,N,O,Q.take (hi.toNat*e.n),by simpa using sQ _ R⟩⟩
 refine VJ.value (w':=w) (v:= .slice (some ⟨b,u,none⟩) hi.toNat hi.toNat) ?_ (XJ.same (by
  simp only[Slot.ok];obtain⟨T,V,B⟩:=G;refine⟨T,⟨V,fun a l c I=>?_⟩,B⟩;subst I;have H:(Value.slice (some ⟨b,u,none⟩) hi.toNat hi.toNat)= .slice a l c:=B;injection H with _ e1 e2
  omega))
 simp[execOp,M,C,D,Xq L (show hi<=(len:Int) by omega) hU hE]
theorem Py{α:Type}{e:Wr α}{zs ys:List α}{U E:TypeId}{len:Nat}{hi:Int}{k:IntKind}(hs:sub zs 0 hi=some ys)(hx:dD σ.g x=some (.XR (Wr.arr len e) zs))(hy:dD σ.g y=some (.v (Wr.int k) hi))(hlen:Nat.ble len 4294967296=true)
  (hU:∀w,(underlying U).run F.P w= .ok (.array len E) w) (hE:∀w,(sizeOf E).run F.P w= .ok e.n w):JO F ⟨d,.slice U x none (some y) none,ty,p,af,gd⟩ σ (.v (Wr.sl e) ys) []:=by
 intro ρ S a w K;have hlen:=w7 hlen;obtain⟨I,s1,L,rfl⟩:=gS hs;have h:=K.slot x (by simp[Op.operands]) _ hx;have A:=(fQ K (x:=y) (by simp[Op.operands]) hy).1;simp only[Slot.ok] at h;obtain⟨b,z,M,B,C,D,G,N,H⟩:=h;have u:((zs.take hi.toNat).drop (0:Int).toNat).length=hi.toNat:=by rw[R6,C0];simp only[Int.toNat_zero];omega
 refine VJ.value (w':=w) (v:= .slice (some ⟨b,z,none⟩) hi.toNat len) ?_ (XJ.same (by
  simp only[Slot.ok]
  exact sG.2 ⟨_,_,by rw[u],⟨by rw[u];omega,by rw[u];omega⟩,.inr ⟨b,z,_,rfl,C,D,G.take (hi.toNat*e.n),by simpa using sQ _ H⟩⟩))
 simp[execOp,B,A,Xh s1 (show hi<=(len:Int) by omega) hU hE]
def K6(σ:AS)(xs:List Operand)(ss:List Slot):Prop:=
 ∀(F:WV) (ρ:Nat->LV) (a:Act) (w:World),Core F σ.d ρ w->(∀t s,lk σ.g t=some s->s.ok ρ (Un F.S0 ρ σ.d) w (a.tmps.getD t undef))->aW ρ (fun _=>False) w ss (xs.map a.eval)
theorem K6.nil:K6 σ [] []:=fun _ _ _ _ _ _=>by simp[aW]
theorem K6.cons{s:Slot}{xs:List Operand}{l:List Slot}(h:Arg σ true x s)(k:K6 σ xs l):K6 σ (x::xs) (s::l):=by
 intro F ρ a w ZT hs;have u:=h _ _ _ _ (cI ZT hs #[x]);simp only[ZU] at u;simp only[aW,E5];exact⟨_,_,rfl,u,k F ρ a w ZT hs⟩
theorem K6.fn1{α:Type}{g i j:Nat}{T T2:TypeId}{e:Wr α}{v:α}{bl l:List Slot}{pb pb2:Option Nat}{xs:List Operand}(h:dD σ.g x=some (.ZJ g [.ptr i 0]))(he:aX σ.d i=some (.box T [.ptr j 0] pb))(he2:aX σ.d j=some (.box T2 bl pb2))(hs:K4 bl e v)(k:K6 σ xs l):
  K6 σ (x::xs) (.ZJ g [.XR (Wr.B2 e) (some v)]::l):=by
 intro F ρ a w ZT XY;have A:=(cI ZT XY #[x]).slot x (by simp) _ h;simp only[aW,E5];refine⟨_,_,rfl,?_,k F ρ a w ZT XY⟩;simp only[Slot.ok] at A ⊢;obtain⟨vs,N,C⟩:=A;refine⟨vs,N,?_⟩;simp only[aW] at C ⊢;obtain⟨u,O,rfl,D,P⟩:=C;refine⟨u,O,rfl,?_,P⟩;have L:=(ZT.own i _ he);have M:=(ZT.own j _ he2);simp only[Slot.ok] at D;obtain⟨⟨b,E⟩,Q⟩:=D;obtain⟨⟨G,cs,H,I,K⟩,_⟩:=L;obtain rfl:G=b:=by rw[E] at H;simpa using H.symm
 simp only[bM] at K;obtain⟨c,ds,rfl,z,rfl⟩:=K;obtain⟨q,rfl,R⟩:∃q,c=[q]/\(Slot.ptr j 0).ok ρ (Un F.S0 ρ σ.d) w q:=by
  simp only[Slot.YW] at z;exact⟨_,z.2,by exact⟨z.1,rfl⟩⟩
 have B:=Xg R M hs;simp only[Slot.ok] at B;obtain⟨S,U,V,X,k2,k3,k4,k5⟩:=B;refine⟨G,0,_,by rw[Q,E];rfl,(VQ.of_heap I).lt,fun h=>h,VQ.of_heap I,?_⟩;exact⟨S,U,V,by simp[X],k2,k3,k4,k5⟩
theorem GM{f:FuncId}{xs:List Operand}{ts:Array TypeId}{ss:List Slot}{res:Slot}(hc:VS F.P f ss res [])(XK:∀args w,(callFunc f args).run F.P w= .ok (.enter f args) w)
  (ha:K6 σ xs ss) (hf:XH res) (hd:gN d F.N=true):JM F ⟨d,.call ⟨.value (.func f),xs.toArray,ts⟩,ty,p,af,gd⟩ σ (σ.put d res []):=by
 rintro a w ⟨⟨ρ,z,A⟩,B,C⟩;refine VJ.enter (uA XK) ?_;refine(hc (fun _=>False) w _ ρ (fun _ h=>h.elim) (ha F ρ a w z A)).mono ?_;rintro e I ⟨v,rfl,ρ',D,E,G,K⟩;exact⟨v,rfl,St.put z A B C rfl hd ⟨ρ',D,E,hf _ _ _ _ _ G,⟨fun i u h=>by simp[aX] at h,fun i u b h=>by simp[aX] at h,fun i j u H b h=>by simp[aX] at h⟩⟩⟩
end
end Go.Sw
namespace Go.Sw
open Go Go.RowKit
def GN{α:Type}(l:List α):Option Unit:=if l.isEmpty then none else some ()
theorem Mp{α:Type}{l:List α}{u:Unit}(h:GN l=some u):l≠ []:=by
 intro e;subst e;cases h
theorem PC{α:Type}{e:Wr α}{v:Bool×List α}:∀S w cs,(Wr.F8 e).ok v S w cs->(Wr.sl e).ok v.2 S w cs:=fun _ _ _ h=>h.1
theorem GO{α:Type}{e:Wr α}{xs:List α}(h:xs≠ []):∀S w cs,(Wr.sl e).ok xs S w cs->(Wr.F8 e).ok (false,xs) S w cs:=by
 rintro S w cs ⟨a,B,A,C,u⟩;refine⟨⟨a,B,A,C,u⟩,fun D l c z=>?_⟩;rcases u with u |⟨b,E,F,rfl,_⟩
 ·exact absurd u h
 ·rw[A] at z;simp at z;rw[<-z.1];rfl
theorem Z4.unN{α:Type}{e:Wr α}{v:Bool×List α}{σ:AS}{r:Nat->Nat}{ls:List Nat}:Z4 σ r ls (.v (Wr.F8 e) v) (.v (Wr.sl e) v.2):= .enc PC (fun _=>rfl)
section
variable {F:WV}{σ:AS}{d:Option Tmp}{ty:TypeId}{p:String}{af:Array Edge}{gd:Option (Nat×Bool)}{x y z:Operand}{α:Type}{e:Wr α}
theorem PD{o:Oper}{xs:List α}{new:List (Nat×VH)}(YS:xs≠ [])(h:JO F o σ (.v (Wr.sl e) xs) new):JO F o σ (.v (Wr.F8 e) (false,xs)) new:=by
 intro ρ S a w K;refine(h ρ S a w K).mono ?_;rintro u H ⟨ρ',D,E,z,G⟩;refine⟨ρ',D,E,?_,G⟩;simp only[Slot.ok] at z ⊢;obtain⟨A,B,C⟩:=z;exact⟨A,GO YS _ _ _ B,C⟩
theorem zE(e:Wr α):JO F ⟨d,.assign (.const (.slice none 0 0)),ty,p,af,gd⟩ σ (.v (Wr.F8 e) (true,[])) []:=by
 intro ρ S a w K;refine VJ.value (w':=w) (v:= .slice none 0 0) (by simp[execOp,Act.eval]) (XJ.same ?_);simp only[Slot.ok];exact⟨[.slice none 0 0],⟨⟨none,0,rfl,by simp,.inl rfl⟩,fun a l c h=>by simp at h;rw[<-h.1];rfl⟩,rfl⟩
theorem Pz{v:Bool×List α}{T T' E:TypeId}(hx:dD σ.g x=some (.v (Wr.F8 e) v))(hT:∀w,(underlying T).run F.P w= .ok (.slice E) w):JO F ⟨d,.binOp .neq T x (.const (.slice none 0 0)) T',ty,p,af,gd⟩ σ (.v Wr.bool (!v.1)) []:=by
 intro ρ S a w K;have h:=K.slot x (by simp[Op.operands]) _ hx;simp only[Slot.ok] at h;obtain⟨b,xs⟩:=v;obtain⟨_,u,l,c,A,rfl⟩:=Rl h;have z:=run_equalIn_slice_nil (P:=F.P) w 9999 T E u l c (qX hT);refine VJ.value (w':=w) (v:= .bool (!u.isNone)) ?_ (XJ.same (pE _ ρ S w));exact BX (r:=u.isNone) (.inr ⟨rfl,rfl⟩) A rfl (by intros;simp) (by intros;simp) (by intros;simp) (by intros;simp) (by simp[eqGuard,Act.eval]) z
theorem yQ{β:Type}{v:α}{e':Wr β}{z':β}{T U:TypeId}{l:List Slot}{pb:Option Nat}{i n off o1:Nat}(hn:n=off+o1)(hx:dD σ.g x=some (.ptr i n))(he:aX σ.d i=some (.box T l pb))(ho:nI l off=some (.v e v))(hp:ui e v o1 e' z')
  (hA:∀w,(isAgg U).run F.P w= .ok e'.agg w) (hS:∀w,(sizeOf U).run F.P w= .ok e'.n w):JO F ⟨d,.load U x,ty,p,af,gd⟩ σ (.v e' z') []:=by
 subst hn;intro ρ S a w K;obtain⟨b,I,L,E,G,H⟩:=zQ K (by simp[Op.operands]) hx he;obtain⟨h,c,z,rfl,rfl,A,_⟩:=uZ ho H;simp only[Slot.YW] at A;obtain⟨u,c',B,rfl,rfl,C⟩:=hp _ _ c A;have D:VQ w b (h.length+u.length) c':=by
  have:=VQ.of_heap G;rw[show h++(u++(c'++B)++z)=(h++u)++(c'++(B++z)) by simp] at this;have:=this.sub;simpa using this
 refine VJ.value (w':=w) (v:=e'.pk c') ?_ (XJ.same (by simp only[Slot.ok];exact⟨c',C,rfl⟩));have:=Fu (P:=F.P) D C hA hS;simp[execOp,E,Instr.loadAt,Instr.sureAddr,this]
end
end Go.Sw
namespace Go.Sw
open Go Go.RowKit
section
variable {F:WV}{ops:Array Oper}{o:Oper}{os:List Oper}{σ σ' eo:AS}{s:Slot}{new:List (Nat×VH)}
theorem J.k(h:JO F o σ s new)(k:J F ops os (σ.put o.dst s new) σ')(g:o.guard= .none:=by rfl)(hf:σ.free new=true:=by rfl)(hd:gN o.dst F.N=true:=by rfl):J F ops (o::os) σ σ':=J.cons (.none g) h hf hd k
theorem J.mv{d:Option Tmp}{x:Operand}{ty:TypeId}{p:String}{af:Array Edge}(hx:dD σ.g x=some s)(k:J F ops os (σ.put d s []) σ')(hd:gN d F.N=true:=by rfl):J F ops (⟨d,.move x,ty,p,af,none⟩::os) σ σ':=J.cons (.none rfl) (aD hx) rfl hd k
theorem J.t(h:JM F o σ σ')(k:J F ops os σ' eo)(g:o.guard= .none:=by rfl):J F ops (o::os) σ eo:=Zg (.none g) h k
end
theorem X6.c{σ:AS}{r:Nat->Nat}{ls:List Nat}{t:Nat}{s':Slot}{g:List (Nat×Slot)}(h:lk σ.g t=some (s'.map r))(k:X6 σ r ls g):X6 σ r ls ((t,s')::g):= .cons h .same k
theorem T9.c{σ:AS}{r:Nat->Nat}{ls:List Nat}{s s':Slot}{l l':List Slot}(h:s=s'.map r)(k:T9 σ r ls l l'):T9 σ r ls (s::l) (s'::l'):= .cons (.of_eq h) k
end Go.Sw
namespace Go.Sw
open Go Go.RowKit
section
variable {F:WV}{σ:AS}{pb:Option Nat}{ty:TypeId}{p:String}{af:Array Edge}{gd:Option (Nat×Bool)}{x y z:Operand}
theorem vQ{T U:TypeId}{l l':List Slot}{i off n:Nat}(pn qn:Nat)(hx:dD σ.g x=some (.ptr i off))(he:aX σ.d i=some (.box T l pb))(h1:Nat.beq (FH (l.take pn)) off=true)(h2:Nat.beq (FH ((l.drop pn).take qn)) n=true)(hy:dD σ.g y=some (.agg l'))(T1:Nat.beq (FH l') n=true)(hnt:l'.all Slot.plain=true)
  (hS:∀w,(sizeOf U).run F.P w= .ok n w):JM F ⟨none,.store U x y,ty,p,af,gd⟩ σ ⟨σ.g,(i,.box T (Rj l pn qn l') pb)::σ.d⟩:=by
 replace T1:=s8 T1;refine pZ he rfl fun ρ a w A B=>?_;have K:=cI A B (Op.store U x y).operands;obtain⟨b,S,C,L,D,M⟩:=zQ K (x:=x) (by simp[Op.operands]) hx he;have z:=Jv B hy;simp only[Slot.ok] at z;obtain⟨N,h,u⟩:=z;obtain⟨E,c,G,rfl,O,Q,R⟩:=Ma h1 h2 M;have H:=lA (P:=F.P) (w:=w) (U:=U) (a:=E) (c:=c) (e:=G) (v:=a.eval y) hS (by rw[h];simp[Value.cells,Lc u,T1]) (by rw[h];simpa[Value.cells] using BZ hnt u) D O Q;refine⟨b,w.setRow b (E++((a.eval y).cells.toList++G)).toArray,.inl (by rw[C];rfl),Z1.setRow w b _,?_,fun I=>?_⟩
 ·exact lB L H
 ·refine⟨⟨b,_,C,setRow_heap w b _ _ T _ D,?_⟩,(A.own i _ he).2⟩;refine fO _ _ ?_ I (fun _ _=>rfl);rw[h];simpa[Value.cells] using R N u
end
def vV:List (Nat×Nat)->Nat->Nat
 | [],i=>i+1000000000
 | (a,b)::l,i=>bif Nat.beq a i then b else vV l i
def RK:List (Nat×Nat)->Bool
 | []=>true
 | (_,b)::l=>Nat.blt b 1000000000 && (l.all fun q=> !Nat.beq q.2 b) && RK l
theorem GP:∀(l:List (Nat×Nat)) (i:Nat),(∃q∈l,vV l i=q.2)\/vV l i=i+1000000000
 | [],i=> .inr rfl
 | (a,b)::l,i=>by
  unfold vV;cases Nat.beq a i with
  |true=>exact .inl ⟨(a,b),Y9,rfl⟩
  |false=>
   rcases GP l i with⟨q,u,z⟩| h
   ·exact .inl ⟨q,Y8 _ u,z⟩
   ·exact .inr h
theorem GQ:∀(l:List (Nat×Nat)),RK l=true->∀q∈l,q.2<1000000000
 | [],_,q,h=>by simp at h
 | (a,b)::l,h,q,u=>by
  simp only[RK,D1] at h;rcases m5.1 u with rfl | u
  ·exact w7 h.1.1
  ·exact GQ l h.2 q u
theorem dK:∀{l:List (Nat×Nat)},RK l=true->∀i j,vV l i=vV l j->i=j
 | [],_,i,j,h=>by unfold vV at h;omega
 | (a,b)::l,A,i,j,h=>by
  have C:=GQ _ A;simp only[RK,D1] at A;have D:=C (a,b) Y9;have B:∀i,vV l i≠b:=by
   intro i e;rcases GP l i with⟨q,z,u⟩| u
   ·have:=j4.1 A.1.2 q z;rw[<-u,e] at this;simp at this
   ·simp only at D;omega
  unfold vV at h;cases z:Nat.beq a i with
  |true=>
   cases u:Nat.beq a j with
   |true=>rw[<-s8 z,<-s8 u]
   |false=>rw[z,u] at h;exact absurd h.symm (B j)
  |false=>
   cases u:Nat.beq a j with
   |true=>rw[z,u] at h;exact absurd h (B i)
   |false=>rw[z,u] at h;exact dK A.2 i j h
end Go.Sw
namespace Go.Sw
open Go Go.RowKit
theorem Qa{β:Type}{κ:IntKind}{f:Wr β}{S:Nat->Prop}{w1:World}(k:Int):∀(m:List (Int×β)) (es:List MapEntry) (i:Nat),Wv (Wr.int κ) f S w1 m es->
  Instr.findNow (.int κ) (.int κ k) es i=some ((kp (m.map (·.1)) k).bind fun j=>(es[j]?).map fun x=>(i+j,x.val))
 | [],[],i,_=>by simp[Instr.findNow,kp]
 | (a,b)::m,x::xs,i,⟨⟨E,B,C⟩,F,D⟩=>by
  have u:x.key= .int κ a:=by rw[C];rw[B.1];rfl
  have z:=Qa k m xs (i+1) D;simp only[Instr.findNow,u,Instr.sameNow,ZU,E5,kp];by_cases c:a=k
  ·subst c;simp
  ·have A:(k==a)=false:=by simp;exact fun h=>c h.symm
   rw[A,WA c];simp only[z];cases kp (m.map (·.1)) k with
   |none=>rfl
   |some j=>simp[aDs,aDf 1 j]
 | [],_::_,_,h=>h.elim
 |_::_,[],_,h=>h.elim
theorem Hl{β:Type}{κ:IntKind}{f:Wr β}{S:Nat->Prop}{w1:World}(k:Int):∀(m:List (Int×β)) (es:List MapEntry),Wv (Wr.int κ) f S w1 m es->
  (kp (m.map (·.1)) k=none->fK m k=none)/\∀j,kp (m.map (·.1)) k=some j->∃v x,fK m k=some v/\es[j]? =some x/\f.val v S w1 x.val
 | [],[],_=>⟨fun _=>rfl,fun j h=>by simp[kp] at h⟩
 | (a,b)::m,x::xs,⟨G,D,E⟩=>by
  obtain⟨u,z⟩:=Hl k m xs E;simp only[E5,kp,fK];by_cases c:a=k
  ·rw[WJ c,WJ c];exact⟨fun h=>by simp at h,fun j h=>by simp at h;subst h;exact⟨b,x,rfl,rfl,D⟩⟩
  ·rw[WA c,WA c];refine⟨fun h=>u (by simpa using h),fun j h=>?_⟩;cases hk:kp (m.map (·.1)) k with
   |none=>rw[hk] at h;simp at h
   |some F=>
    rw[hk] at h;simp at h;subst h;obtain⟨v,y,A,B,C⟩:=z F hk;exact⟨v,y,A,by simpa using B,C⟩
 | [],_::_,h=>h.elim
 |_::_,[],h=>h.elim
theorem Ek{β:Type}{κ:IntKind}{P:Program}{T:TypeId}{f:Wr β}{S:Nat->Prop}{w1:World}(hT:∀w,(underlying T).run P w= .ok (.int κ) w)(k:Int)(w:World)(m:List (Int×β))(es:List MapEntry)(h:Wv (Wr.int κ) f S w1 m es):
  (Instr.findKey T (.int κ k) es).run P w= .ok ((kp (m.map (·.1)) k).bind fun j=>(es[j]?).map fun x=>(j,x.val)) w:=by
 have:=Qa k m es 0 h;simp only[za] at this;simp only[Instr.findKey,Sem.run_bind,hT,Result.andThen_ok,this];rfl
section
variable {F:WV}{σ:AS}{d:Option Tmp}{ty:TypeId}{p:String}{af:Array Edge}{gd:Option (Nat×Bool)}{x y z:Operand}{β:Type}{κ:IntKind}{n':Nat}{M KT KT' VT:TypeId}{f:Wr β}{m m':List (Int×β)}{i:Nat}{k:Int}
theorem Mq{u:β}{zv:Value}(hx:dD σ.g x=some (.ref i))(hd:aX σ.d i=some (.mp (Wr.int κ) f m))(hy:dD σ.g y=some (.v (Wr.int κ) k))
  (hM:∀w,(underlying M).run F.P w= .ok (.map KT VT) w) (hT:∀w,(underlying KT).run F.P w= .ok (.int κ) w) (hk:n5 n' F.P KT (Wr.int κ)) (I7:Nat.ble n' 10000=true)
  (hz:∀w,(zeroValue VT).run F.P w= .ok zv w) (dy:∀S w,f.val u S w zv):JO F ⟨d,.lookup M x y true,ty,p,af,gd⟩ σ (.WC [.v f ((fK m k).getD u),.v Wr.bool (fK m k).isSome]) []:=by
 intro ρ S a w K;obtain⟨E,N,_⟩:=yO K (x:=x) (by simp[Op.operands]) hx hd;obtain⟨b,C,ck,G,O,H⟩:=N;have h:=K.slot y (by simp[Op.operands]) _ hy;simp only[Slot.ok] at h;obtain⟨I,h,Q⟩:=h;have A:a.eval y= .int κ k:=by rw[Q,h.1];rfl
 have z:=Ek hT k w m C.toList H;have B:=hk 10000 (w7 I7) C.isEmpty w S w k I h;have L:(Wr.int κ).pk I= .int κ k:=by rw[h.1];rfl
 rw[L] at B;have D:=MapKept.run_getObj_map (P:=F.P) O;obtain⟨R,T⟩:=Hl k m C.toList H;have WC:∀{v:Value} {t:β} {c:Bool},f.val t S w v->(Slot.WC [.v f t,.v Wr.bool c]).ok ρ S w (.tuple #[v,.bool c]):=by
  intro v t c A;simp only[Slot.ok];refine⟨[v,.bool c],rfl,?_⟩;simp only[aW,Slot.ok];exact⟨v,[.bool c],rfl,A,.bool c,[],rfl,⟨[.bool c],rfl,rfl⟩,rfl⟩
 cases hm:kp (m.map (·.1)) k with
 |none=>
  rw[hm] at z;have:=R hm;rw[this];refine VJ.value (w':=w) (v:= .tuple #[zv,.bool false]) ?_ (XJ.same (WC (dy _ _)));simp[execOp,E,G,A,Instr.lookup,hM,D,B,z,hz]
 |some j=>
  rw[hm] at z;obtain⟨v,q,U,V,X⟩:=T j hm;rw[U];rw[cM,V] at z;refine VJ.value (w':=w) (v:= .tuple #[q.val,.bool true]) ?_ (XJ.same (WC X));simp[execOp,E,G,A,Instr.lookup,hM,D,B,z]
theorem Uf{u:β}{zv:Value}(hx:dD σ.g x=some (.ref i))(hd:aX σ.d i=some (.mp (Wr.int κ) f m))(hy:dD σ.g y=some (.v (Wr.int κ) k))
  (hM:∀w,(underlying M).run F.P w= .ok (.map KT VT) w) (hT:∀w,(underlying KT).run F.P w= .ok (.int κ) w) (hk:n5 n' F.P KT (Wr.int κ)) (I7:Nat.ble n' 10000=true)
  (hz:∀w,(zeroValue VT).run F.P w= .ok zv w) (dy:∀S w,f.val u S w zv):JO F ⟨d,.lookup M x y false,ty,p,af,gd⟩ σ (.v f ((fK m k).getD u)) []:=by
 intro ρ S a w K;obtain⟨E,N,_⟩:=yO K (x:=x) (by simp[Op.operands]) hx hd;obtain⟨b,B,ck,G,O,H⟩:=N;have h:=K.slot y (by simp[Op.operands]) _ hy;simp only[Slot.ok] at h;obtain⟨I,h,Q⟩:=h;have C:a.eval y= .int κ k:=by rw[Q,h.1];rfl
 have z:=Ek hT k w m B.toList H;have A:=hk 10000 (w7 I7) B.isEmpty w S w k I h;have L:(Wr.int κ).pk I= .int κ k:=by rw[h.1];rfl
 rw[L] at A;have D:=MapKept.run_getObj_map (P:=F.P) O;obtain⟨R,T⟩:=Hl k m B.toList H;cases hm:kp (m.map (·.1)) k with
 |none=>
  rw[hm] at z;have:=R hm;rw[this];refine VJ.value (w':=w) (v:=zv) ?_ (XJ.same (by simp only[Slot.ok];exact dy _ _));simp[execOp,E,G,C,Instr.lookup,hM,D,A,z,hz]
 |some j=>
  rw[hm] at z;obtain⟨v,q,U,V,X⟩:=T j hm;rw[U];rw[cM,V] at z;refine VJ.value (w':=w) (v:=q.val) ?_ (XJ.same (by simp only[Slot.ok];exact X));simp[execOp,E,G,C,Instr.lookup,hM,D,A,z]
theorem Mr{v:β}(hm:Gz m k v=some m')(hx:dD σ.g x=some (.ref i))(hd:aX σ.d i=some (.mp (Wr.int κ) f m))(hy:dD σ.g y=some (.v (Wr.int κ) k))(hz:dD σ.g z=some (.v f v))
  (hM:∀w,(underlying M).run F.P w= .ok (.map KT VT) w) (hT:∀w,(underlying KT).run F.P w= .ok (.int κ) w) (hk:n5 n' F.P KT (Wr.int κ)) (I7:Nat.ble n' 10000=true):
  JM F ⟨none,.mapUpdate M x y z,ty,p,af,gd⟩ σ ⟨σ.g,(i,.mp (Wr.int κ) f m')::σ.d⟩:=by
 obtain⟨aa,rfl⟩:=Pn hm;refine pZ hd rfl fun ρ a w X hs=>?_;have K:=cI X hs (Op.mapUpdate M x y z).operands;obtain⟨h1,h2,_⟩:=yO K (x:=x) (by simp[Op.operands]) hx hd;obtain⟨b,u,A,C,D,E⟩:=h2;have h:=K.slot y (by simp[Op.operands]) _ hy;have G:=K.slot z (by simp[Op.operands]) _ hz;simp only[Slot.ok] at h G;have Q:=h;obtain⟨N,h,vd⟩:=h;have R:a.eval y= .int κ k:=by rw[vd,h.1];rfl
 have H:=Ek hT k w m u.toList E;have S:kp (m.map (·.1)) k=none:=by
  cases xw:kp (m.map (·.1)) k with
  |none=>rfl
  |some j=>obtain⟨v,_,O,_⟩:=(Hl k m u.toList E).2 j xw;rw[aa] at O;cases O
 rw[S] at H;have I:=hk 10000 (w7 I7) false w _ w k N h;have T:(Wr.int κ).pk N= .int κ k:=by rw[h.1];rfl
 rw[T] at I;have U:=MapKept.run_getObj_map (P:=F.P) D;have V:=fun o=>MapKept.run_setObj_map (P:=F.P) o D;have L:=MapKept.heap_set (o':= .map (u.push { key:=a.eval y,val:=a.eval z,born:=A }) (A+1)) D;refine⟨b,{ w with heap:=w.heap.setIfInBounds b (.map (u.push { key:=a.eval y,val:=a.eval z,born:=A }) (A+1)) },.inl (by rw[C];rfl),⟨by simp,L.2,rfl,rfl,rfl⟩,?_,fun B=>?_⟩
 ·simp[execOp,h1,C,R,Instr.mapUpdate,hM,U,I,H,V]
 ·refine⟨b,_,_,C,L.1,?_⟩;rw[aDk];exact Mc (gO Q B) (gO G B) (zL B E)
theorem Qb{α:Type}{e:Wr α}{S:Nat->Prop}{w:World}:∀{m:List (α×β)} {es:List MapEntry} (q:Nat),Wv e f S w m es->Wv e f S w (m.eraseIdx q) (es.eraseIdx q)
 | [],[],_,_=>trivial
 | (_,_)::_,_::_,0,⟨_,_,h⟩=>h
 | (_,_)::_,_::_,q+1,⟨u,z,A⟩=>⟨u,z,Qb q A⟩
 | [],_::_,_,h=>h.elim
 |_::_,[],_,h=>h.elim
theorem Ms(hx:dD σ.g x=some (.ref i))(hd:aX σ.d i=some (.mp (Wr.int κ) f m))(hy:dD σ.g y=some (.v (Wr.int κ) k))
  (hM:∀w,(underlying M).run F.P w= .ok (.map KT VT) w) (hT:∀w,(underlying KT).run F.P w= .ok (.int κ) w) (hk:n5 n' F.P KT (Wr.int κ)) (I7:Nat.ble n' 10000=true):
  JM F ⟨none,.call ⟨.builtin .delete,#[x,y],#[M,KT']⟩,ty,p,af,gd⟩ σ ⟨σ.g,(i,.mp (Wr.int κ) f (Gb m k))::σ.d⟩:=by
 rintro a w ⟨⟨ρ,R,S⟩,m9,YR⟩;have K:=cI R S (Op.call ⟨.builtin .delete,#[x,y],#[M,KT']⟩).operands;obtain⟨O,h2,_⟩:=yO K (x:=x) (by simp[Op.operands,Call.operands]) hx hd;obtain⟨b,A,B,C,G,D⟩:=h2;have h:=K.slot y (by simp[Op.operands,Call.operands]) _ hy;simp only[Slot.ok] at h;obtain⟨Q,h,vd⟩:=h;have H:a.eval y= .int κ k:=by rw[vd,h.1];rfl
 have u:=Ek hT k w m A.toList D;have E:=hk 10000 (w7 I7) A.isEmpty w _ w k Q h;have T:(Wr.int κ).pk Q= .int κ k:=by rw[h.1];rfl
 rw[T] at E;have I:=MapKept.run_getObj_map (P:=F.P) G;have L:=fun o=>MapKept.run_setObj_map (P:=F.P) o G;have U:YN (ρ i).v=some b:=by rw[C];rfl
 obtain⟨z,H5,aa⟩:∃z:Array MapEntry,(execOp a.eval ⟨none,.call ⟨.builtin .delete,#[x,y],#[M,KT']⟩,ty,p,af,gd⟩).run F.P w= .ok (.value (.tuple #[])) { w with heap:=w.heap.setIfInBounds b (.map z B) }/\Wv (Wr.int κ) f (Un F.S0 ρ σ.d) w (Gb m k) z.toList:=by
  unfold Gb;cases xw:kp (m.map (·.1)) k with
  |none=>
   rw[xw] at u;simp only[Option.bind_none] at u;exact⟨A,by simp[execOp,resolve,invoke,builtin,Builtin.delete_,O,C,H,hM,I,E,u,L],D⟩
  |some q=>
   rw[xw] at u;obtain⟨_,xq,_,e2,_⟩:=(Hl k m A.toList D).2 q xw;rw[cM,e2] at u;refine⟨A.eraseIdxIfInBounds q,by simp[execOp,resolve,invoke,builtin,Builtin.delete_,O,C,H,hM,I,E,u,L],?_⟩;simp only[Array.toList_eraseIdxIfInBounds];exact Qb q D
 have N:=MapKept.heap_set (o':= .map z B) G;refine VJ.value H5 ?_
 obtain⟨k1,k2⟩:=R.upd (en':= .mp (Wr.int κ) f (Gb m k)) hd (.inl U) (b:=b) (w':={ w with heap:=w.heap.setIfInBounds b (.map z B) }) ⟨by simp,N.2,rfl,rfl,rfl⟩ (fun V=>by
  exact⟨b,z,B,C,N.1,zL V aa⟩)
 exact⟨⟨ρ,k1,fun t s X=>Slot.VE s _ (S t s X) k2 (fun _ _=>rfl)⟩,m9,YR⟩
end
end Go.Sw
namespace Go.Sw
open Go Go.RowKit
def El(gs:List FuncId):Wr Nat where
 n:=1
 agg:=false
 ok i _ _ cs:=(∃g,gs[i]? =some g/\cs=[.func (.func g) #[] #[]])\/(gs[i]? =none/\cs=[.nilFunc])
 len h:=by rcases h with⟨_,_,rfl⟩|⟨_,rfl⟩<;>rfl
 one _:=rfl
 cell h c hc:=by rcases h with⟨_,_,rfl⟩|⟨_,rfl⟩<;>(simp at hc;subst hc;rfl)
 mono h _:=h
theorem LJ{gs:List FuncId}{i:Nat}{g:FuncId}{S:Nat->Prop}{w:World}{u:Value}(hg:gs[i]? =some g)(h:(El gs).val i S w u):u= .func (.func g) #[] #[]:=by
 obtain⟨A,h,rfl⟩:=h;rcases h with⟨B,z,rfl⟩|⟨z,rfl⟩
 ·rw[hg] at z;cases z;rfl
 ·rw[hg] at z;cases z
section
variable {F:WV}{σ:AS}{d:Option Tmp}{ty:TypeId}{p:String}{af:Array Edge}{gd:Option (Nat×Bool)}{x y z:Operand}
theorem Arg.toN{α:Type}{e:Wr α}{xs:List α}{ZB:Bool}(YS:xs≠ [])(h:dD σ.g x=some (.v (Wr.sl e) xs)):Arg σ ZB x (.v (Wr.F8 e) (false,xs)):=by
 have z:Arg σ ZB x (.v (Wr.sl e) xs):= .dir h;intro ρ S a w K;have u:=z ρ S a w K;simp only[Slot.ok] at u ⊢;obtain⟨A,B,C⟩:=u;exact⟨A,GO YS _ _ _ B,C⟩
theorem qZ{o:Oper}{g:FuncId}{new:List (Nat×VH)}(gs:List FuncId)(i:Nat)(hg:gs[i]? =some g)(h:JO F o σ (.ZJ g []) new):JO F o σ (.v (El gs) i) new:=by
 intro ρ S a w K;refine(h ρ S a w K).mono ?_;rintro u E ⟨ρ',B,C,A,D⟩;refine⟨ρ',B,C,?_,D⟩;simp only[Slot.ok] at A ⊢;obtain⟨vs,rfl,z⟩:=A;simp only[aW] at z;subst z;exact⟨[.func (.func g) #[] #[]],.inl ⟨g,hg,rfl⟩,rfl⟩
theorem Bw(gs:List FuncId)(i:Nat)(hg:gs[i]? =none):JO F ⟨d,.assign (.const .nilFunc),ty,p,af,gd⟩ σ (.v (El gs) i) []:=by
 intro ρ S a w K;refine VJ.value (w':=w) (v:= .nilFunc) (by simp[execOp,Act.eval]) (XJ.same ?_);simp only[Slot.ok];exact⟨[.nilFunc],.inr ⟨hg,rfl⟩,rfl⟩
theorem CN{gs:List FuncId}{i:Nat}{xs:List Operand}{ts:Array TypeId}{ss:List Slot}{res:Slot}{XX VP:(Nat->Nat)->List (Nat×VH)}{D:List (Nat×VH)}{K H:List Nat}(r:Nat->Nat)(hr:∀i j,r i=r j->i=j)(hx:dD σ.g x=some (.v (El gs) i))
  (hc:∃f,gs[i]? =some f/\(∀args w,(callFunc f args).run F.P w= .ok (.enter f args) w)/\∀A,VG F.P f ss (XX A) res (VP A)) (ha:w9 σ r xs ss) (y3:∀A,w6 σ r A (XX A)) (B8:∀A,YX σ r A (VP A) D K)
  (hH:∀A,(XX A).map (fun x=>r x.1)=H) (XY:Bb σ.g (iV σ.d H) H K D=true) (M4:On σ H D=true) (YK:∀A,kY res (VP A)=true) (gq:K.all (fun k=>iD k H)=true) (ZP:gN d F.N=true):
  JM F ⟨d,.call ⟨.value x,xs.toArray,ts⟩,ty,p,af,gd⟩ σ ⟨iO d (res.map r) σ.g,D++iV σ.d H⟩:=by
 obtain⟨f,ab,XK,hc⟩:=hc;rintro a w ⟨⟨ρ,z,S⟩,hz,YR⟩;let A:Nat->Nat:=fun i=>l7 (ρ (r i)).v
 have O:∀i b,(ρ (r i)).v= .pointer (some ⟨b,0,none⟩)->A i=b:=fun i b h=>by show l7 (ρ (r i)).v=b;rw[h];rfl
 have B:=(y3 A).spec z.own O;have T:∀k,(Un F.S0 ρ σ.d k/\¬mN (fun i=>ρ (r i)) (XX A) k)->k<w.heap.size:=by
  rintro k ⟨h |⟨i,u,C,M⟩,_⟩
  ·exact O3 (z.low k h) z.size
  ·exact(z.fresh i u k C M).2
 have Q:Un (fun k=>Un F.S0 ρ σ.d k/\¬mN (fun i=>ρ (r i)) (XX A) k) (fun i=>ρ (r i)) (XX A)=Un F.S0 ρ σ.d:=by
  funext k;refine propext ⟨fun h=>?_,fun h=>?_⟩
  ·rcases h with h |⟨i,u,C,M⟩
   ·exact h.1
   ·obtain⟨⟨L,E⟩,_⟩:=B i u C;exact .inr ⟨r i,L,E,M⟩
  ·by_cases G:mN (fun i=>ρ (r i)) (XX A) k
   ·exact .inr G
   ·exact .inl ⟨h,G⟩
 have U:Ins (fun k=>Un F.S0 ρ σ.d k/\¬mN (fun i=>ρ (r i)) (XX A) k) (fun i=>ρ (r i)) w (XX A):=by
  refine⟨fun i u h=>?_,fun i u b h I=>?_,fun i u b h I X=>X.2 ⟨i,u,h,I⟩,fun i j u aa b hi hj bi bj=>?_⟩
  ·rw[Q];exact(B i u h).2
  ·obtain⟨⟨L,E⟩,_⟩:=B i u h;exact(z.fresh _ _ b E I).2
  ·obtain⟨⟨L,E⟩,_⟩:=B i u hi;obtain⟨⟨bg,h4⟩,_⟩:=B j aa hj;exact hr _ _ (z.inj _ _ _ _ b E h4 bi bj)
 have K:=cI z S (Op.call ⟨.value x,xs.toArray,ts⟩).operands;have V:=ha.spec (ys:=(Op.call ⟨.value x,xs.toArray,ts⟩).operands) (fun x hx=>by simp[Op.operands,Call.operands,hx]) K;have R:=K.slot x (by simp[Op.operands,Call.operands]) _ hx;simp only[Slot.ok] at R;have C:a.eval x= .func (.func f) #[] ([]:List Value).toArray:=LJ ab R;refine VJ.enter (Po C XK) ?_;rw[X1];refine(hc A _ w _ _ T U (by rw[Q];exact V)).mono ?_;rintro e w' ⟨v,ρ',rfl,G⟩;exact⟨v,rfl,St.G4 hr z S hz YR O (y3 A) (B8 A) (hH A) XY M4 (YK A) gq ZP G⟩
end
end Go.Sw
namespace Go.Sw
open Go Go.RowKit
section
variable {F:WV}{σ:AS}{pb:Option Nat}{d:Option Tmp}{ty:TypeId}{p:String}{af:Array Edge}{gd:Option (Nat×Bool)}{x y z:Operand}
theorem uE{α:Type}{T U:TypeId}{l:List Slot}{i off:Nat}{s0:Slot}(j:Nat)(E:TypeId)(e:Wr α)(hx:dD σ.g x=some (.ptr i off))(he:aX σ.d i=some (.box T l pb))(ho:nI l off=some s0)(H4:s0.sz=1)
  (hS:∀w,(sizeOf U).run F.P w= .ok 1 w) (hf:σ.free [(j,.arr E e [])]=true):JM F ⟨none,.store U x (.const (.slice none 0 0)),ty,p,af,gd⟩ σ ⟨σ.g,(i,.box T (nV l off (.ref j)) pb)::(j,.arr E e [])::σ.d⟩:=by
 rintro a w ⟨⟨ρ,hc,hs⟩,hz,YR⟩;obtain⟨ρ',G,h2,h3,h4⟩:=Lv (w:=w) (S:=Un F.S0 ρ σ.d) E e j ρ;obtain⟨C,k2,k3⟩:=hc.put rfl hf G h2 h4;have D:∀t s,lk σ.g t=some s->s.ok ρ' (Un F.S0 ρ' ([(j,.arr E e [])]++σ.d)) w (a.tmps.getD t undef):=fun t s A=>
  Slot.VE s _ (hs t s A) k3 (fun q R=>congrArg LV.v (G q (by
   cases hy:aX [(j,VH.arr E e [])] q with
   |none=>rfl
   |some e=>exact absurd R ((kV hf hy).1 t s A))))
 have M:i≠j:=fun h=>by
  subst h;have:=(kV hf (i:=i) (en:= .arr E e []) (by simp[aX])).2.1;rw[he] at this;cases this
 have B:aX ([(j,.arr E e [])]++σ.d) i=some (.box T l pb):=by
  rw[gJ];simp[aX,show Nat.beq j i=false from by cases hb:Nat.beq j i with
   |true=>exact absurd (s8 hb).symm M
   |false=>rfl,he]
 have K:=cI (σ:=⟨σ.g,[(j,.arr E e [])]++σ.d⟩) C D (Op.store U x (.const (.slice none 0 0))).operands;obtain⟨b,cs,H,g2,I,g4⟩:=zQ K (x:=x) (by simp[Op.operands]) hx B;obtain⟨L,c,aa,rfl,rfl,g5,g6⟩:=uZ ho g4;have N:a.eval (.const (.slice none 0 0))= .slice none 0 0:=by simp[Act.eval]
 have z:=qV (s:= .ref j) rfl h3;rw[<-N] at z;have O:∀u∈(a.eval (.const (.slice none 0 0))).cells.toList,u.oneCell'=true:=fun u V=>Gx z u V (fun e=>by cases e);have Q:=lA (P:=F.P) (w:=w) (U:=U) hS (by have:=nL z;simp only[Z0] at this;exact this) O I rfl (by rw[nL g5];exact H4);obtain⟨m1,m2⟩:=C.upd (en':= .box T (nV l L.length (.ref j)) pb) B (b:=b) (.inl (by rw[H];rfl)) (Z1.setRow w b (L++((a.eval (.const (.slice none 0 0))).cells.toList++aa)).toArray) fun X=>by
  refine⟨⟨b,_,H,setRow_heap w b _ _ T _ I,?_⟩,(C.own i _ B).2⟩;refine fO _ _ (g6 (.ref j) _ ?_) X (fun _ _=>rfl);refine(vK _ _ z ?_ (fun _ _=>rfl));exact⟨YO _,fun k _ hn=>⟨rfl,fun h=>hn ((k2 k).1 h)⟩⟩
 exact VJ.skip (lB g2 Q) ⟨⟨ρ',m1,fun t s A=>Slot.VE s _ (D t s A) m2 (fun _ _=>rfl)⟩,hz,YR⟩
def TL(q:List (Nat×Nat×Slot))(d:List (Nat×VH)):Prop:=∀x∈q,∃T l pb,aX d x.1=some (.box T l pb)/\nI l x.2.1=some x.2.2
theorem GR{U:TypeId}{i off:Nat}{s:Slot}{g:List (Nat×Slot)}{dd:List (Nat×VH)}(q:List (Nat×Nat×Slot))(k:Nat)(hd:TL q dd)(hk:q[k]? =some (i,off,s))
  (hld:∀T l pb,aX dd i=some (.box T l pb)->nI l off=some s->JO F ⟨d,.load U x,ty,p,af,gd⟩ ⟨g,dd⟩ s []):JO F ⟨d,.load U x,ty,p,af,gd⟩ ⟨g,dd⟩ s []:=by
 obtain⟨T,l,pb,h,u⟩:=hd _ (aB7 hk);exact hld T l pb h u
def QZ(x:Nat×Nat×Slot):VH->Prop
 | .box _ l _=>nI l x.2.1=some x.2.2
 |_=>False
def TC(x:Nat×Nat×Slot)(nw:List (Nat×VH))(dl:List Nat):Prop:=match aX nw x.1 with
 |some h=>QZ x h
 |none=>iD x.1 dl=false
def TM(x:Nat×Nat×Slot):List YZ->Prop
 | []=>True
 |it::r=>TC x it.nw it.dl/\TM x r
def UG(d:List (Nat×VH))(its:List YZ):List (Nat×Nat×Slot)->Prop
 | []=>True
 |x::r=>((match aX d x.1 with | some h=>QZ x h | none=>False)/\TM x its)/\UG d its r
theorem LK{x:Nat×Nat×Slot}{en:VH}(h:QZ x en):∃T l pb,en= .box T l pb/\nI l x.2.1=some x.2.2:=by
 cases en with
 |box T l pb=>exact⟨T,l,pb,rfl,h⟩
 |_=>exact h.elim
theorem GS{x:Nat×Nat×Slot}:∀{its:List YZ} {i:Nat},TM x its->i<its.length->TC x (its.getD i ⟨.top,[],[],[],[]⟩).nw (its.getD i ⟨.top,[],[],[],[]⟩).dl
 | [],_,_,h=>by simp at h
 |_::_,0,h,_=>h.1
 |_::r,i+1,h,u=>by have:=GS (its:=r) (i:=i) h.2 (by simpa using u);simpa using this
theorem AG{x:Nat×Nat×Slot}{nw:Nat->List (Nat×VH)}{dl:Nat->List Nat}{d:List (Nat×VH)}{L:Nat->Bool}(h0:∃en,aX d x.1=some en/\QZ x en):∀{n:Nat},(∀i,i<n->TC x (nw i) (dl i))->∃en,aX (Bv nw dl d n L) x.1=some en/\QZ x en
 | 0,_=>h0
 |n+1,h=>by
  have z:=AG (L:=L) h0 (n:=n) fun i D=>h i (by omega);simp only[Bv];cases L n with
  |false=>exact z
  |true=>
   have u:=h n (by omega);simp only[XG,gJ];unfold TC at u;cases hx:aX (nw n) x.1 with
   |some en=>rw[hx] at u;exact⟨en,rfl,u⟩
   |none=>
    rw[hx] at u;have:x.1∉dl n:=fun A=>by rw[iX.2 A] at u;cases u
    obtain⟨en,B,C⟩:=z;exact⟨en,by rw[qA,WA this];simpa using B,C⟩
theorem AH{d:List (Nat×VH)}{its:List YZ}{n:Nat}(hn:n=its.length):∀{q:List (Nat×Nat×Slot)},UG d its q->∀L,TL q (Bv (fun i=>(its.getD i ⟨.top,[],[],[],[]⟩).nw) (fun i=>(its.getD i ⟨.top,[],[],[],[]⟩).dl) d n L)
 | [],_,_=>fun _ h=>by cases h
 |x::r,h,L=>fun y u=>by
  rcases m5.1 u with rfl | u
  ·have z:∃en,aX d y.1=some en/\QZ y en:=by
    have:=h.1.1;cases hx:aX d y.1 with
    |some en=>rw[hx] at this;exact⟨en,rfl,this⟩
    |none=>rw[hx] at this;exact this.elim
   subst hn;obtain⟨en,B,C⟩:=AG (L:=L) z fun i A=>GS h.1.2 A;obtain⟨T,l,D,rfl,E⟩:=LK C;exact⟨T,l,D,B,E⟩
  ·exact AH hn h.2 L y u
theorem Rx{α:Type}{xs ys:List α}{lo hi:Int}(hs:Sw.sub xs lo hi=some ys):ys.length=hi.toNat - lo.toNat:=by
 obtain⟨h,u,z,rfl⟩:=gS hs;simp only[R6,C0];omega
theorem LL{α:Type}{xs ys:List α}{lo hi m:Int}{z:α}(hs:Sw.sub xs lo hi=some ys)(hz:Sw.idx ys m=some z):xs[lo.toNat+m.toNat]? =some z:=by
 have u:=Rx hs;obtain⟨B,C,D,rfl⟩:=gS hs;obtain⟨E,A,h⟩:=dG hz;rw[List.getElem?_drop,List.getElem?_take] at h;rw[u] at A
 rwa [WJ (by omega)] at h
theorem CO{α:Type}{e:Wr α}{xs ys:List α}{lo hi:Int}{T U E:TypeId}{i:Nat}(hs:Sw.sub xs lo hi=some ys)(hx:dD σ.g x=some (.sub i (lo.toNat*e.n) (hi.toNat - lo.toNat)))(he:aX σ.d i=some (.arr T e xs))(hU:∀w,(underlying U).run F.P w= .ok (.slice E) w):
  JO F ⟨d,.call ⟨.builtin .len,#[x],#[U]⟩,ty,p,af,gd⟩ σ (.v (Wr.int .i64) (ys.length:Int)) []:=by
 intro ρ S a w K;have A:=Rx hs;obtain⟨L,M,C,_⟩:=gS hs;have u:=K.slot x (by simp[Op.operands,Call.operands]) _ hx;simp only[Slot.ok] at u;obtain⟨⟨D,l0,N,G⟩,c,o,O,Q,H⟩:=u;have B:ZM T e xs S w (ρ i).v:=(K.y9 x (by simp[Op.operands,Call.operands]) _ hx i (by simp[Slot.YF]) _ he).1;have h:∃z,a.eval x= .slice z (hi.toNat - lo.toNat) c:=by
  rw[H,G];cases D with
  |none=>exact⟨_,rfl⟩
  |some q=>exact⟨_,rfl⟩
 obtain⟨z,h⟩:=h;have I:(ys.length:Int)<9223372036854775808:=by
  rcases B with⟨rfl,_⟩|⟨b,R,V,X,aa,_,_,_,_,_,T1⟩
  ·simp at C;omega
  ·omega
 refine VJ.value (w':=w) (v:= .int .i64 ys.length) ?_ (XJ.same (tC (Cz (by omega)) ρ S w));rw[A];simp[execOp,resolve,invoke,builtin,h,Gv hU]
theorem CP{α:Type}{e:Wr α}{xs ys:List α}{lo hi:Int}{T U E:TypeId}{k:IntKind}{m:Int}{z:α}{i:Nat}(hs:Sw.sub xs lo hi=some ys)(hz:Sw.idx ys m=some z)(hx:dD σ.g x=some (.sub i (lo.toNat*e.n) (hi.toNat - lo.toNat)))(he:aX σ.d i=some (.arr T e xs))(hy:dD σ.g y=some (.v (Wr.int k) m))
  (hU:∀w,(underlying U).run F.P w= .ok (.slice E) w) (hE:∀w,(sizeOf E).run F.P w= .ok e.n w):JO F ⟨d,.indexAddr U x y,ty,p,af,gd⟩ σ (.el i (lo.toNat+m.toNat) e.n 0) []:=by
 intro ρ S a w K;have N:=Rx hs;obtain⟨O,Q,I,_⟩:=gS hs;obtain⟨L,R,V⟩:=dG hz;have B:=K.slot x (by simp[Op.operands]) _ hx;simp only[Slot.ok] at B;obtain⟨⟨X,l0,c0,g0⟩,c,o,g1,h,M⟩:=B;have C:ZM T e xs S w (ρ i).v:=(K.y9 x (by simp[Op.operands]) _ hx i (by simp[Slot.YF]) _ he).1;have D:=(fQ K (x:=y) (by simp[Op.operands]) hy).1;rcases C with⟨rfl,_⟩|⟨b,cap,u,cs,aa,A,_⟩
 ·simp at I;omega
 have G:o=lo.toNat*e.n:=by
  rcases h with h | h
  ·exact h
  ·omega
 subst G;have H:a.eval x= .slice (some ⟨b,u.length+lo.toNat*e.n,none⟩) (hi.toNat - lo.toNat) c:=by rw[M,A];rfl
 refine VJ.value (w':=w) (v:= .pointer (some ⟨b,u.length+lo.toNat*e.n+m.toNat*e.n,none⟩)) ?_ (XJ.same (by simp only[Slot.ok];exact⟨⟨b,_,_,_,A⟩,by rw[A];simp[Lq,I6,aDs]⟩));have:=Cy (P:=F.P) (w:=w) (b:=b) (off:=u.length+lo.toNat*e.n) (len:=hi.toNat - lo.toNat) (cap:=c) (k:=k) hU hE L (by omega:m<((hi.toNat - lo.toNat:Nat):Int));simp only[execOp,H,D];simp[this]
end
section
variable {F:WV}{ops:Array Oper}{OK:List (Nat×VH)->Prop}{os:List Oper}{σ σ2 σ':AS}{its:List YZ}{d:Option Tmp}{ty:TypeId}{p:String}{af:Array Edge}{gd:Option (Nat×Bool)}{o:Oper}
theorem XF.aJc{gs:List FuncId}{fi:Nat}{x:Operand}{xs:List Operand}{ts:Array TypeId}{ss:List Slot}{res:Slot}{XX VP:(Nat->Nat)->List (Nat×VH)}{D:List (Nat×VH)}{K H:List Nat}(g:GK ops σ.g ⟨d,.call ⟨.value x,xs.toArray,ts⟩,ty,p,af,gd⟩ true)(r:Nat->Nat)(hr:∀i j,r i=r j->i=j)
  (hx:dD σ.g x=some (.v (El gs) fi)) (hc:∃f,gs[fi]? =some f/\(∀args w,(callFunc f args).run F.P w= .ok (.enter f args) w)/\∀A,VG F.P f ss (XX A) res (VP A)) (ha:w9 σ r xs ss) (y3:∀A,w6 σ r A (XX A)) (B8:∀A,YX σ r A (VP A) D K)
  (hH:∀A,(XX A).map (fun x=>r x.1)=H) (hDK:D.all (fun x=> !iD x.1 H || iD x.1 K)=true) (_:On σ H D=true) (YK:∀A,kY res (VP A)=true) (gq:K.all (fun k=>iD k H)=true) (ZP:gN d F.N=true)
  (k:XF F ops OK os ⟨iO d (res.map r) σ.g,D++iV σ.d H⟩ its σ'):
  XF F ops OK (⟨d,.call ⟨.value x,xs.toArray,ts⟩,ty,p,af,gd⟩::os) σ (⟨res.map r,D,D.filter (fun x=> !iD x.1 H),Kq σ.g ⟨d,.call ⟨.value x,xs.toArray,ts⟩,ty,p,af,gd⟩++H,H⟩::its) σ':=by
 refine .mvx (nw:=D) (fr:=D.filter (fun x=> !iD x.1 H)) (dl:=H) (ex:=H) g ZP (fun σ2 G I M=>?_) k;have L:∀x∈D,iD x.1 H=true->iD x.1 K=true:=fun x hx B=>by
  have:=j4.1 hDK x hx;simpa[B] using this
 refine CN r hr ((G.ev (by simp[Op.operands,Call.operands])).trans hx) hc (ha.loc G fun x hx=>by simp[Op.operands,Call.operands,hx]) (fun A=>(y3 A).loc fun l u=>I l (by rw[<-hH A];exact u)) (fun A=>(B8 A).loc fun l u=>I l (iX.1 (j4.1 gq l u))) hH ?_ ?_ YK gq ZP
 ·have C:∀l,(!iD l H || iD l K || !iD l (D.map (·.1)))=true:=by
   intro l;cases h:iD l H with
   |false=>simp
   |true=>
    cases h2:iD l (D.map (·.1)) with
    |false=>simp
    |true=>
     obtain⟨x,hx,rfl⟩:=bh.1 (iX.1 h2);simp[L x hx h]
  unfold Bb;simp only[D1,j4];exact⟨fun y _ l _=>C l,fun y _ l _=>C l⟩
 ·unfold On;rw[j4];intro x hx;cases B:iD x.1 H with
  |true=>simp
  |false=>
   have h:=j4.1 M x (yw.2 ⟨hx,by simp[B]⟩);simp only[D1,j4] at h;have E:∀l:List Nat,(!l.contains x.1)=true->(!iD x.1 l)=true:=by
    intro l u;cases h2:iD x.1 l with
    |false=>rfl
    |true=>have:=iX.1 h2;simp at u;exact absurd this u
   simp only[yx,D1,j4];exact .inr ⟨fun y z=>⟨(h.2 y z).1,E _ (h.2 y z).2⟩,fun y z=>E _ (h.1 y z)⟩
end
end Go.Sw
namespace Go.Sw
open Go Go.RowKit
def eD(v:Value):DE Obj where
 ok o _ w u _:=(u.v= .pointer (some ⟨0,0,none⟩)/\w.cell? ⟨0,0,none⟩=some v)/\w.heap[0]? =some o
 mono:=by
  rintro q S C w D u l ⟨⟨h,z⟩,A⟩ _ B;have:=B 0 (.inl (by rw[h];rfl));refine⟨⟨h,?_⟩,by rw[this];exact A⟩;unfold World.cell? at z ⊢;rw[this];exact z
section
variable {F:WV}{σ:AS}{pb:Option Nat}{d:Option Tmp}{ty:TypeId}{p:String}{af:Array Edge}{gd:Option (Nat×Bool)}{x y z:Operand}
theorem Ug{T T0 E:TypeId}{l:List Slot}{i off b:Nat}(hx:dD σ.g x=some (.ptr i off))(he:aX σ.d i=some (.box T0 l (some b)))(hT:∀w,(underlying T).run F.P w= .ok (.pointer E) w):
  JO F ⟨d,.makeInterface T x,ty,p,af,gd⟩ σ (.v (Wr.ZK (.iface T (.pointer (some ⟨b,off,none⟩))) rfl) ()) []:=by
 intro ρ S a w K;have h:=K.slot x (by simp[Op.operands]) _ hx;simp only[Slot.ok] at h;obtain⟨⟨b0,B⟩,u⟩:=h;have z:=(K.y9 x (by simp[Op.operands]) _ hx i (by simp[Slot.YF]) _ he).1.2 b rfl;rw[z] at u;have A:a.eval x= .pointer (some ⟨b,off,none⟩):=u;exact VJ.value (w':=w) (v:= .iface T (.pointer (some ⟨b,off,none⟩))) (by simp[execOp,A,Instr.makeInterface,hT]) (XJ.same (by simp only[Slot.ok];exact Hb.2 rfl))
theorem Kc:∀{l:List Slot} {off:Nat} {s:Slot},nI l off=some s->nV l off s=l
 | [],_,_,h=>by cases h
 |t::r,off,s,h=>by
  simp only[nI] at h;simp only[nV];cases h0:Nat.beq off 0 with
  |true=>rw[h0] at h;cases h;rfl
  |false=>
   rw[h0] at h;simp only[pF] at h ⊢;cases h1:Nat.ble t.sz off with
   |true=>rw[h1] at h;rw[Kc h]
   |false=>rw[h1] at h;cases h
theorem Uh{w:World}{b:Nat}{pre c post:List Value}{u v:Value}{T:TypeId}(hc:c=[u])(h:w.heap[b]? =some (.cells (pre++(c++post)).toArray T (0,0))):
  Z1 b w (w.setCell ⟨b,pre.length,none⟩ v)/\(w.setCell ⟨b,pre.length,none⟩ v).heap[b]? =some (.cells (pre++([v]++post)).toArray T (0,0)):=by
 subst hc;refine⟨⟨by simp[World.setCell],fun k z=>?_,rfl,rfl,rfl⟩,?_⟩
 ·simp only[World.setCell,Array.getElem?_modify];rw[WA (fun e=>z e.symm)]
 ·simp only[World.setCell,Array.getElem?_modify,ZU,h,pw];simp
theorem GU{f:FuncId}{ts:Array TypeId}{ET PT T:TypeId}{i off G b:Nat}{l:List Slot}{v:Value}{e:Option Int}{bu:Int}{go:Obj}
  (ch:∀t w,Calls F.P f #[.nilIface,t] w fun e w'=>e= .returned (.bool false)/\w'=w)
  (aY5:∀(n:Int) (t:Addr) (bu:Value) (w:World),w.cell? ⟨0,0,none⟩=some v->w.cell? t=some bu->w.frozen? t=false->
   Calls F.P f #[.iface ET (.int .i64 n),.iface PT (.pointer (some t))] w fun ev w'=>ev= .returned (.bool true)/\∃o1 o2 o3 o4,w'=((((w.alloc o1).alloc o2).alloc o3).alloc o4).setCell t (.int .i64 n))
  (XK:∀args w,(callFunc f args).run F.P w= .ok (.enter f args) w)
  (hx:dD σ.g x=some (.v (Wr.err ET) e)) (hy:dD σ.g y=some (.v (Wr.ZK (.iface PT (.pointer (some ⟨b,off,none⟩))) rfl) ())) (he:aX σ.d i=some (.box T l (some b))) (ho:nI l off=some (.v (Wr.int .i64) bu))
  (hG:aX σ.d G=some (.dp (eD v) go [])) (hd:gN d F.N=true):
  JM F ⟨d,.call ⟨.value (.func f),[x,y].toArray,ts⟩,ty,p,af,gd⟩ σ ⟨iO d (.v Wr.bool e.isSome) σ.g,(i,.box T (nV l off (.v (Wr.int .i64) (e.getD bu))) (some b))::σ.d⟩:=by
 rintro a w ⟨⟨ρ,A,R⟩,hz,YR⟩;have K:=cI A R (Op.call ⟨.value (.func f),[x,y].toArray,ts⟩).operands;have L:=K.slot x (by simp[Op.operands,Call.operands]) _ hx;have D:=K.slot y (by simp[Op.operands,Call.operands]) _ hy;simp only[Slot.ok] at L D;have D:=Hb.1 D;have fin:∀(q:Bool) (w':World) (C:List Slot),Core F ((i,.box T C (some b))::σ.d) ρ w'->Ext (Un F.S0 ρ σ.d) (Un F.S0 ρ ((i,.box T C (some b))::σ.d)) w w'->
   St F ⟨iO d (.v Wr.bool q) σ.g,(i,.box T C (some b))::σ.d⟩ (a.put d (.bool q)) w':=by
  intro q w' C E O;have M:St F ⟨σ.g,(i,.box T C (some b))::σ.d⟩ a w':=⟨⟨ρ,E,fun t s ht=>Slot.VE s _ (R t s ht) O (fun _ _=>rfl)⟩,hz,YR⟩;obtain⟨⟨ρ2,H,B⟩,Q,z⟩:=M;have:=St.put (σ:=⟨σ.g,(i,.box T C (some b))::σ.d⟩) (s:= .v Wr.bool q) (new:=[]) (v:= .bool q) (dst:=d) H B Q z rfl hd (XJ.same (pE _ ρ2 _ w'));cases d with
  |none=>exact this
  |some t=>exact this
 refine VJ.enter (uA XK) ?_;cases e with
 |none=>
  have E:=At.1 L;simp only[E5,aD0,E,D];refine(ch _ w).mono ?_;rintro ev w' ⟨rfl,rfl⟩;refine⟨_,rfl,?_⟩;have hl:nV l off (.v (Wr.int .i64) ((none:Option Int).getD bu))=l:=Kc ho;rw[hl];have M:St F ⟨iO d (.v Wr.bool false) σ.g,σ.d⟩ (a.put d (.bool false)) w':=by
   have:=St.put (s:= .v Wr.bool false) (new:=[]) (v:= .bool false) (dst:=d) A R hz YR rfl hd (XJ.same (pE _ ρ _ w'));cases d with
   |none=>exact this
   |some t=>exact this
  show St F ⟨iO d (.v Wr.bool false) σ.g,(i,.box T l (some b))::σ.d⟩ _ _;refine St.congr (σ:=⟨iO d (.v Wr.bool false) σ.g,σ.d⟩) (fun _=>rfl) (fun q=>?_) M;show aX ((i,.box T l (some b))::σ.d) q=aX σ.d q;rw[cK];split
  ·rename_i h;subst h;exact he.symm
  ·rfl
 |some n=>
  obtain⟨E,O⟩:=Au.1 L;simp only[E5,aD0,E,D];obtain⟨⟨b0,cs,H,B,Q⟩,z⟩:=A.own i _ he;have z:=z b rfl;rw[z] at H;simp only[Value.pointer.injEq,A7,Addr.mk.injEq,and_true] at H;subst H;obtain⟨I,c,ab,rfl,rfl,U,q2⟩:=uZ ho Q;simp only[Slot.YW] at U;obtain⟨u,V⟩:∃u,c=[u]:=by
   have:=(Wr.int .i64).len U
   match c,this with
   | [u],_=>exact⟨u,rfl⟩
  have K0:w.cell? ⟨b,I.length,none⟩=some u:=by simp[World.cell?,B,V]
  have aa:w.frozen? ⟨b,I.length,none⟩=false:=by simp[World.frozen?,B]
  have va:=(A.own G _ hG).1.2;refine(aY5 n ⟨b,I.length,none⟩ u w va K0 aa).mono ?_;rintro ev w' ⟨rfl,o1,o2,o3,o4,rfl⟩;refine⟨_,rfl,?_⟩;have S:Below w.heap.size w ((((w.alloc o1).alloc o2).alloc o3).alloc o4):=
   ((((Below.refl _ w).alloc (YO _) o1).alloc (by simp) o2).alloc (by simp;omega) o3).alloc (by simp;omega) o4
  obtain⟨k1,X⟩:=A.below S;have WZ:b<w.heap.size:=by
   rcases K3 b w.heap.size with h | h
   ·exact h
   ·rw[zd h] at B;cases B
  have nc:=(S.block b WZ).trans B;obtain⟨r1,r2⟩:=Uh (v:= .int .i64 n) V nc;obtain⟨m1,m2⟩:=k1.upd (en':= .box T (nV l I.length (.v (Wr.int .i64) n)) (some b)) he (.inl (by rw[z];rfl)) r1 fun hE=>by
   refine⟨⟨b,_,z,r2,?_⟩,fun c A=>by cases A;exact z⟩;have q3:=q2 (.v (Wr.int .i64) n) [.int .i64 n] (by simp only[Slot.YW];exact⟨rfl,O⟩);exact fO _ _ (fO _ _ q3 X (fun _ _=>rfl)) hE (fun _ _=>rfl)
  exact fin true _ _ m1 (X.trans m2)
end
end Go.Sw
