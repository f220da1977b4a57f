/- The library over the model: how values lie, what is ours in memory, rules for operations, calls, loops. Conditions: none. -/
import Derived.Test.YteckohdbfkhmdabGreatDoorMAMirrorSays
import Derived.Laws.Externs
set_option linter.unusedVariables false
set_option linter.unusedSimpArgs false
namespace Go.Sw
open Go Go.RowKit
def IterC(P:Program)(gf:FuncId)(cap:List Slot)(items:List (List Slot)):Prop:=
 ∀(S:Nat->Prop) (w:World) (vs:List Value) (ρ:Nat->LV) (l:Nat) (J:Nat->World->Prop) (Jx:World->Prop),
  (∀k,S k->k<w.heap.size)->aV ρ S w cap vs->J 0 w->
  (∀k W,J k W->w.heap.size<=W.heap.size/\∀b,b<w.heap.size->¬S b->W.heap[b]? =w.heap[b]?)->
  (∀k W h,J k W->Below W.heap.size W h->J k h)->(∀W h,Jx W->Below W.heap.size W h->Jx h)->
  (∀k item W0 W us,items[k]? =some item->J k W0->Below W0.heap.size W0 W->aV ρ (fun j=>S j\/(w.heap.size<=j/\j<W0.heap.size)) W item us->∃fn tmps assign body,(Instr.yield l us.toArray).run P W= .ok (.round l fn tmps assign body) W/\
   RoundIn Fence.wide 0 P l fn tmps assign body W fun e h=>(e= .returned (.bool true)/\J (k+1) h)\/(e= .returned (.bool false)/\Jx h))->
  Calls P gf (.func (.yield l) #[] #[]::vs).toArray w fun e u=>(∃v,e= .returned v)/\(J items.length u\/Jx u)
def rng{ι α δ:Type}(step:ι->α->Option (Step α δ)):List ι->α->Option (Ex α δ)
 | [],y=>some (.brk y)
 |i::is,y=>match step i y with
  |none=>none
  |some (.next h)=>rng step is h
  |some (.done z)=>some (.ret z)
def EN:List Tmp->List Slot->List (Nat×Slot)->List (Nat×Slot)
 |t::ts,s::ss,g=>EN ts ss ((t,s)::g)
 |_,_,g=>g
def Nn(A:Nat->Nat):List (Nat×Ent)->List (Nat×Ent)
 | []=>[]
 | (i,h)::d=>(i,match h with | .box T l _=> .box T l (some (A i)) | .arr T e xs=> .arr T e xs | .mp e f m=> .mp e f m | .dp D x u=> .dp D x u)::Nn A d
theorem Ad{A:Nat->Nat}:∀{d:List (Nat×Ent)} {i:Nat} {en:Ent},aW (Nn A d) i=some en->∃en0,aW d i=some en0/\((∃T l pb,en0= .box T l pb/\en= .box T l (some (A i)))\/en=en0)
 | [],i,en,h=>by simp[Nn,aW] at h
 | (j,e)::d,i,en,h=>by
  simp only[Nn] at h;rw[bV] at h;rw[bV];split at h
  ·rename_i u;subst u;cases h;rw[aAn rfl];refine⟨_,rfl,?_⟩;cases e with
   |box T l pb=>exact .inl ⟨T,l,pb,rfl,rfl⟩
   |arr T e xs=>exact .inr rfl
   |mp e f m=>exact .inr rfl
   |dp D x z=>exact .inr rfl
  ·rename_i u;rw[aAj u];exact Ad h
theorem Sq{A:Nat->Nat}:∀{d:List (Nat×Ent)} {i:Nat} {en:Ent},aW d i=some en->∃en',aW (Nn A d) i=some en'
 | [],i,en,h=>by simp[aW] at h
 | (j,e)::d,i,en,h=>by
  simp only[Nn];rw[bV] at h ⊢;split
  ·exact⟨_,rfl⟩
  ·rename_i u;rw[aAj u] at h;exact Sq h
inductive BoxesIn (A:Nat->Nat) (d:List (Nat×Ent)):List Nat->Prop
 |nil:BoxesIn A d []
 |cons {i:Nat} {T:TypeId} {l:List Slot} {is:List Nat}:aW d i=some (.box T l (some (A i)))->BoxesIn A d is->BoxesIn A d (i::is)
theorem BoxesIn.spec{A:Nat->Nat}{d:List (Nat×Ent)}{is:List Nat}(h:BoxesIn A d is):∀i∈is,∃T l,aW d i=some (.box T l (some (A i))):=by
 induction h with
 |nil=>intro i h;simp at h
 |cons z _ B=>
  intro i u;rcases aAo.1 u with rfl | u
  ·exact⟨_,_,z⟩
  ·exact B i u
def AQ(F:Frm)(σ:AS):Exit->Act->World->Prop
 | .normal,a,w=>St F σ a w
 |_,_,_=>False
def RB{α δ:Type}(F:Frm)(ds:α->List (Nat×Ent))(dx:δ->List (Nat×Ent)):Step α δ->Exit->Act->World->Prop
 | .next y,.normal,a,w=>St F ⟨[],ds y⟩ a w
 | .done z,.ret,a,w=>St F ⟨[],dx z⟩ a w
 |_,_,_,_=>False
theorem Core.pin{F:Frm}{d:List (Nat×Ent)}{ρ:Nat->LV}{w:World}{A:Nat->Nat}(hc:Core F d ρ w)(hA:∀i b,(ρ i).v= .pointer (some ⟨b,0,none⟩)->A i=b):Core F (Nn A d) ρ w/\Un F.S0 ρ (Nn A d)=Un F.S0 ρ d:=by
 have G:Un F.S0 ρ (Nn A d)=Un F.S0 ρ d:=by
  funext k;refine propext ⟨fun h=>?_,fun h=>?_⟩
  ·rcases h with h |⟨i,C,u,B⟩
   ·exact .inl h
   ·obtain⟨z,D,_⟩:=Ad u;exact .inr ⟨i,z,D,B⟩
  ·rcases h with h |⟨i,C,u,B⟩
   ·exact .inl h
   ·obtain⟨H,D⟩:=Sq (A:=A) u;exact .inr ⟨i,H,D,B⟩
 refine⟨⟨hc.low,hc.size,hc.frame,hc.os,hc.tape,hc.output,fun i C h=>?_,fun i C b h=>?_,fun i j C H b I K=>?_,fun i C b h=>?_⟩,G⟩
 ·obtain⟨z,u,B⟩:=Ad h;rw[G];have:=hc.own i z u;rcases B with⟨T,l,P,rfl,rfl⟩| rfl
  ·obtain⟨⟨b,L,E,M,N⟩,_⟩:=this;exact⟨⟨b,L,E,M,N⟩,fun c hc=>by cases hc;rw[E,hA i b E]⟩
  ·exact this
 ·obtain⟨z,u,_⟩:=Ad h;exact hc.fresh i z b u
 ·obtain⟨z,u,_⟩:=Ad I;obtain⟨O,B,_⟩:=Ad K;exact hc.inj i j z O b u B
 ·obtain⟨z,u,_⟩:=Ad h;exact hc.apart i z b u
theorem Core.turn{F F':Frm}{d:List (Nat×Ent)}{ρ:Nat->LV}{w w':World}{l:Nat}(hc:Core F d ρ w)(hl:F.S0 l)(hS:F'.S0=F.S0)(hz:w'.heap.size=w.heap.size)(ho:∀k,k≠l->w'.heap[k]? =w.heap[k]?)
  (hsz:F'.w0.heap.size<=w'.heap.size) (hlow:∀k,F.S0 k->k<F'.w0.heap.size) (hfr:∀k,k<F'.w0.heap.size->¬F'.R k->w'.heap[k]? =F'.w0.heap[k]?) (hos:w'.os=F'.w0.os) (htp:w'.tape=F'.w0.tape) (hout:w'.output=F'.w0.output)
  (hR:∀i en b,aW d i=some en->pV (ρ i) b->F'.w0.heap.size<=b\/F'.R b):Core F' d ρ w'/\Ext (Un F.S0 ρ d) (Un F'.S0 ρ d) w w':=by
 have z:Ext (Un F.S0 ρ d) (Un F'.S0 ρ d) w w':=⟨by rw[hz];exact aAi _,fun k _ A=>⟨ho k fun e=>A (.inl (e ▸ hl)),by rw[hS];exact A⟩⟩
 have B:∀i en b,aW d i=some en->pV (ρ i) b->b≠l:=fun i en b h u e=>hc.apart i en b h u (e ▸ hl);exact⟨⟨by rw[hS];exact hlow,hsz,hfr,hos,htp,hout,fun i en h=>Ent.ok_mono (hc.own i en h) z (fun _ _=>rfl) (fun b u=>ho b (B i en b h u)),fun i en b h u=>⟨hR i en b h u,by rw[hz];exact(hc.fresh i en b h u).2⟩,hc.inj,fun i en b h u=>by rw[hS];exact hc.apart i en b h u⟩,z⟩
theorem Wg(ps:List (Tmp×Value))(t:Array Value):(ps.foldl (fun tmps (t,a)=>tmps.setIfInBounds t a) t).size=t.size:=by
 induction ps generalizing t with
 |nil=>rfl
 |cons x ps h=>simp only[aA8];rw[h];simp
theorem Yu{ρ:Nat->LV}{S:Nat->Prop}{w:World}:∀(ps:List Tmp) (ss:List Slot) (us:List Value) (g:List (Nat×Slot)) (tm:Array Value),(∀t s,lk g t=some s->s.ok ρ S w (tm.getD t undef))->aV ρ S w ss us->ps.length=ss.length->(∀t∈ps,t<tm.size)->
  ∀t s,lk (EN ps ss g) t=some s->s.ok ρ S w (((ps.zip us).foldl (fun tmps (t,a)=>tmps.setIfInBounds t a) tm).getD t undef)
 | [],[],us,g,tm,C,z,_,_=>by simp only[aV] at z;subst z;exact C
 |p::ps,H::ss,us,g,tm,C,z,A,D=>by
  simp only[aV] at z;obtain⟨u,us,rfl,F,G⟩:=z;simp only[EN,List.zip_cons_cons,aA8];refine Yu ps ss us _ _ (fun t s h=>?_) G (by simpa using A) (fun t h=>by simpa using D t (aAz _ h));have E:=D p aA6;rw[lK] at h;rw[aA7,aDj];split at h
  ·rename_i B;subst B;cases h;simp[E];exact F
  ·rename_i B;rw[aAj B,<-aA7];exact C t s h
 | [],_::_,_,_,_,_,_,A,_=>by simp at A
 |_::_,[],_,_,_,_,_,A,_=>by simp at A
theorem Qn{F0 F:Frm}{σ:AS}{cs:List Code}{Q:Exit->Act->World->Prop}{gt:Tmp}{ps:Array Tmp}{assign body:Code}{α ι δ:Type}{gf:FuncId}{cap:List Slot}{step:ι->α->Option (Step α δ)}{its:List ι}{x0:α}{o:Ex α δ}(enc:ι->List Slot)
  {g:List (Nat×Slot)} {ds0:List (Nat×Ent)} (ds:(Nat->Nat)->α->List (Nat×Ent)) (dx:(Nat->Nat)->δ->List (Nat×Ent)) (σ1:(Nat->Nat)->ι->α->AS) {L:List Nat}
  (hF:Fol F0 F) (hrd:F.rd=none) (hm:rng step its x0=some o) (h0:Sub F σ ⟨g,ds0⟩) (hds:∀A,Nn A ds0=ds A x0) (hg:lk g gt=some (.fnc gf cap)) (hit:IterC F.P gf cap (its.map enc))
  (hcall:∀args w,(callFunc gf args).run F.P w= .ok (.enter gf args) w) (hps:∀it,(enc it).length=ps.size) (hpN:ps.toList.all (fun t=>Nat.blt t F.N)=true) (hel:∀it,dF (enc it)=[])
  (hL:(g.flatMap fun q=>q.2.lab)=L) (hbx:∀A y,BoxesIn A (ds A y) L) (hbz:∀A z,BoxesIn A (dx A z) L)
  (hassign:∀A S w R l it y,W ⟨F.P,F.N,S,w,R,some l,[]⟩ [assign] ⟨EN ps.toList (enc it) g,ds A y⟩ (AQ ⟨F.P,F.N,S,w,R,some l,[]⟩ (σ1 A it y)))
  (hbody:∀A S w R l it y r,step it y=some r->W ⟨F.P,F.N,S,w,R,some l,[]⟩ [body] (σ1 A it y) (RB ⟨F.P,F.N,S,w,R,some l,[]⟩ (ds A) (dx A) r))
  (hk:∀A y,o= .brk y->∀S w R df,Fol F0 ⟨F.P,F.N,S,w,R,none,df⟩->W ⟨F.P,F.N,S,w,R,none,df⟩ cs ⟨g,ds A y⟩ Q)
  (hx:∀A z,o= .ret z->∀S w R df,Fol F0 ⟨F.P,F.N,S,w,R,none,df⟩->XQ ⟨F.P,F.N,S,w,R,none,df⟩ ⟨g,dx A z⟩ Q .ret):
  W F (.rangeFunc (.tmp gt) ps assign body::cs) σ Q:=by
 intro a w db;obtain⟨⟨ρ0,G,ah⟩,hz,ch⟩:=h0 a w db;have ay:F.fe=Fence.wide:=by show ({ Fence.wide with round:=F.rd }:Fence)=_;rw[hrd];rfl
 let A:Nat->Nat:=fun i=>adr (ρ0 i).v
 obtain⟨G,ci⟩:=G.pin (A:=A) (fun i b h=>by show adr (ρ0 i).v=b;rw[h];rfl);replace ah:∀t s,lk g t=some s->s.ok ρ0 (Un F.S0 ρ0 (ds A x0)) w (a.tmps.getD t undef):=by intro t s M;rw[<-hds,ci];exact ah t s M
 rw[hds] at G;clear ci;have bi:=ah gt _ hg;simp only[Slot.ok] at bi;obtain⟨vs,de,dg⟩:=bi;obtain⟨D,hD⟩:∃D,D=w.heap.size:=⟨_,rfl⟩
 refine wpIn_rangeFunc fun fn _=>?_;obtain⟨O,U⟩:∃O:LoopState->Option Code->Loop,O=fun st pe=>{ state:=st,pending:=pe,fn,tmps:=a.tmps,params:=ps,assign,body,defers:=D }:=⟨_,rfl⟩
 obtain⟨W1,ap⟩:∃W1,(w.alloc (.deferred (some []))).alloc (.loop (O .ready none))=W1:=⟨_,rfl⟩
 have ac:Below w.heap.size w W1:=by rw[<-ap];exact((Below.refl _ w).alloc (aAi _) _).alloc (by simp) _
 have dq:W1.heap.size=D+2:=by rw[<-ap,hD];simp
 have bj:W1.heap[D+1]? =some (.loop (O .ready none)):=by
  rw[<-ap,hD];have:=World.alloc_heap_new (w.alloc (.deferred (some []))) (.loop (O .ready none));rwa [World.size_alloc] at this
 have cq:W1.heap[D]? =some (.deferred (some [])):=by
  rw[<-ap,hD];exact(Below.heap_alloc _ _ _ (by simp)).trans (World.alloc_heap_new w _)
 let S1:Nat->Prop:=fun k=>F.S0 k\/k=D\/k=D+1
 let V:Nat->Prop:=lQ ρ0 (ds A x0)
 let FL:Frm:=⟨F.P,F.N,S1,W1,V,none,[]⟩
 let FX:Frm:=⟨F.P,F.N,S1,W1,fun k=>V k\/k=D+1,none,[]⟩
 have ai:∀k,S1 k->k<W1.heap.size:=by
  rintro k (h | rfl | rfl)
  ·have:=G.low k h;have:=G.size;omega
  ·omega
  ·omega
 have al:Ext (Un F.S0 ρ0 (ds A x0)) (Un S1 ρ0 (ds A x0)) w W1:=⟨ac.size,fun k hk I=>⟨ac.block k hk,by
  rintro ((h | rfl | rfl) | h)
  ·exact I (.inl h)
  ·omega
  ·omega
  ·exact I (.inr h)⟩⟩
 have bk:Core FL (ds A x0) ρ0 W1:=by
  refine⟨ai,aAi _,fun _ _ _=>rfl,rfl,rfl,rfl,fun i B h=>Ent.ok_mono (G.own i B h) al (fun _ _=>rfl) (fun b H=>ac.block b (G.fresh i B b h H).2),fun i B b h H=>⟨.inr ⟨i,B,h,H⟩,aAy (G.fresh i B b h H).2 ac.size⟩,G.inj,fun i B b h H=>?_⟩;rintro (h' | rfl | rfl)
  ·exact G.apart i B b h H h'
  ·have:=(G.fresh i B _ h H).2;omega
  ·have:=(G.fresh i B _ h H).2;omega
 have bl:∀{d:List (Nat×Ent)} {ρ:Nat->LV} {W:World},Core FL d ρ W->W.heap[D+1]? =some (.loop (O .ready none))/\W.heap[D]? =some (.deferred (some [])):=by
  intro d ρ W u;have bm:∀k,k=D\/k=D+1->¬V k:=by
   rintro k hk ⟨i,B,E,C⟩;have:=(G.fresh i B k E C).2;omega
  exact⟨(u.frame (D+1) (by show D+1<W1.heap.size;omega) (bm _ (.inr rfl))).trans bj,(u.frame D (by show D<W1.heap.size;omega) (bm _ (.inl rfl))).trans cq⟩
 have az:∀{d:List (Nat×Ent)} {ρ:Nat->LV} {W:World} {FF:Frm},Core FF d ρ W->BoxesIn A d L->∀t s,lk g t=some s->lP ρ0 ρ s.lab:=by
  intro d ρ W FF u H t s M i hi;have bn:i∈L:=by rw[<-hL];exact aD5.2 ⟨_,Kn M,hi⟩
  obtain⟨T,l,E⟩:=H.spec i bn;obtain⟨T',l',C⟩:=(hbx A x0).spec i bn;rw[(u.own i _ E).2 _ rfl,(G.own i _ C).2 _ rfl]
 have bo:∀{d:List (Nat×Ent)} {ρ:Nat->LV} {W:World},Core FL d ρ W->Ext (Un S1 ρ0 (ds A x0)) (Un S1 ρ d) W1 W:=by
  intro d ρ W u;refine⟨u.size,fun k hk I=>⟨u.frame k hk (fun h=>I (.inr h)),?_⟩⟩;rintro (h |⟨i,B,E,C⟩)
  ·exact I (.inl h)
  ·rcases (u.fresh i B k E C).1 with h | h
   ·have:W1.heap.size<=k:=h;omega
   ·exact I (.inr h)
 have cr:∀{d:List (Nat×Ent)} {ρ:Nat->LV} {W:World},Core FX d ρ W->Ext (Un S1 ρ0 (ds A x0)) (Un S1 ρ d) W1 W:=by
  intro d ρ W u;have bp:∀k,¬Un S1 ρ0 (ds A x0) k->¬(V k\/k=D+1):=by
   rintro k I (h | rfl)
   ·exact I (.inr h)
   ·exact I (.inl (.inr (.inr rfl)))
  refine⟨u.size,fun k hk I=>⟨u.frame k hk (bp k I),?_⟩⟩;rintro (h |⟨i,B,E,C⟩)
  ·exact I (.inl h)
  ·rcases (u.fresh i B k E C).1 with h | h
   ·have:W1.heap.size<=k:=h;omega
   ·exact bp k I h
 have bq:∀{d:List (Nat×Ent)} {ρ:Nat->LV} {W W':World} {FF:Frm},(FF=FL\/FF=FX)->Core FF d ρ W->W'.heap.size=W.heap.size->(∀k,k≠D+1->W'.heap[k]? =W.heap[k]?)->W'.os=W.os->W'.tape=W.tape->W'.output=W.output->W.heap[D]? =some (.deferred (some []))->
   Fol F0 ⟨F.P,F.N,S1,W',lQ ρ d,none,{ target:= .collected D,args:= #[] }::F.df⟩/\Core ⟨F.P,F.N,S1,W',lQ ρ d,none,{ target:= .collected D,args:= #[] }::F.df⟩ d ρ W'/\Ext (Un S1 ρ d) (Un S1 ρ d) W W':=by
  intro d ρ W W' FF hFF u hzz hother hos htp hout hKD;have am:FF.S0=S1:=by rcases hFF with rfl | rfl<;>rfl
  have an:FF.w0=W1:=by rcases hFF with rfl | rfl<;>rfl
  have br:∀k,FF.R k->V k\/k=D+1:=by rcases hFF with rfl | rfl;exact fun k h=> .inl h;exact fun k h=>h
  have ct:=u.size;rw[an] at ct;have bs:∀k,k<W1.heap.size->¬V k->k≠D+1->W.heap[k]? =W1.heap[k]? :=fun k E C K=>by
   have:=u.frame k (by rw[an];exact E) (fun h=>(br k h).elim C K);rwa [an] at this
  have a0:∀k,F.S0 k\/k=D\/k=D+1->¬lQ ρ d k:=by
   rintro k hk ⟨i,B,E,C⟩;have:=u.apart i B k E C;rw[am] at this;exact this hk
  have bt:∀k,lQ ρ d k->k<W1.heap.size->V k:=by
   rintro k ⟨i,B,E,C⟩ hk;rcases (u.fresh i B k E C).1 with h | h
   ·rw[an] at h;omega
   ·rcases br k h with h | rfl
    ·exact h
    ·exact absurd ⟨i,B,E,C⟩ (a0 _ (.inr (.inr rfl)))
  have bu:∀k,V k->F0.w0.heap.size<=k\/F0.R k:=by
   rintro k ⟨i,B,E,C⟩;rcases (G.fresh i B k E C).1 with h | h
   ·exact .inl (aBq hF.size h)
   ·exact hF.fresh k h
  have a2:W'.os=F.w0.os/\W'.tape=F.w0.tape/\W'.output=F.w0.output:=by
   have E:=u.os;have C:=u.tape;have K:=u.output;rw[an] at E C K;exact⟨((hos.trans E).trans ac.os).trans G.os,((htp.trans C).trans ac.tape).trans G.tape,((hout.trans K).trans ac.output).trans G.output⟩
  have a4:=u.turn (F':=⟨F.P,F.N,S1,W',lQ ρ d,none,{ target:= .collected D,args:= #[] }::F.df⟩) (l:=D+1) (by rw[am];exact .inr (.inr rfl)) am.symm hzz hother (aAi _) (fun k h=>by rw[am] at h;show k<W'.heap.size;have:=ai k h;omega)
   (fun _ _ _=>rfl) rfl rfl rfl (fun i B b h H=> .inr ⟨i,B,h,H⟩)
  rw[am] at a4;refine⟨⟨hF.P,fun k h=> .inl (hF.S k h),by show F0.w0.heap.size<=W'.heap.size;have:=hF.size;have:=G.size;omega,hF.low,fun k hk hr=>?_,a2.1.trans hF.os,a2.2.1.trans hF.tape,a2.2.2.trans hF.output,fun k hk=>?_,fun x hx=>?_,?_⟩,a4.1,a4.2⟩
  ·have av:=hF.size;have a5:=G.size;obtain⟨E,C⟩:=hF.frame k hk hr;have aw:¬V k:=fun h=>(bu k h).elim (fun h=>by omega) hr;refine⟨?_,fun h=>aw (bt k h (by omega))⟩;show W'.heap[k]? =_;rw[hother k (by omega),bs k (by omega) aw (by omega),ac.block k (by omega),G.frame k (by omega) C,E]
  ·by_cases ae:k<W1.heap.size
   ·exact bu k (bt k hk ae)
   ·have av:=hF.size;have a5:=G.size;exact .inl (by omega)
  ·rcases aAo.1 hx with rfl | hx
   ·have av:=hF.size;have a5:=G.size;exact⟨D,rfl,.inr (.inl rfl),a0 D (.inr (.inl rfl)),by omega,by show W'.heap[D]? =_;rw[hother D (by omega)];exact hKD⟩
   ·obtain⟨r,E,C,K,h4,h5⟩:=hF.df x hx;have ae:=G.low r C;have a5:=G.size;refine⟨r,E,.inl C,a0 r (.inl C),h4,?_⟩;show W'.heap[r]? =_;have aw:¬V r:=fun⟨i,B,h6,h7⟩=>G.apart i B r h6 h7 C;rw[hother r (by omega),bs r (by omega) aw (by omega),ac.block r (by omega),G.frame r ae K,h5]
  ·refine List.pairwise_cons.2 ⟨fun x hx e=>?_,hF.nd⟩;obtain⟨r,E,C,_⟩:=hF.df x hx;rw[E] at e;have e':D=r:=by simpa using e
   have:=G.low r C;have:=G.size;omega
 let J:Nat->World->Prop:=fun k W=>∃y ρ,rng step (its.drop k) y=some o/\Core FL (ds A y) ρ W
 let Jx:World->Prop:=fun W=>∃z ρ,o= .ret z/\Core FX (dx A z) ρ W/\W.heap[D+1]? =some (.loop (O .done (some .ret)))/\W.heap[D]? =some (.deferred (some []))
 refine⟨D+1,[{ target:= .collected D,args:= #[] }],W1,{ target:= .fn (.func gf) vs.toArray,args:= #[.func (.yield (D+1)) #[] #[]] },W1,gf,(.func (.yield (D+1)) #[] #[]::vs).toArray,W1,?_,?_,fun _ _=>by rw[ay];trivial,?_,fun h=>(by rw[ay] at h;cases h),?_⟩
 ·rw[<-ap,U,hD];show (Instr.enterLoop _ _ _ _ _ F.rd).run _ _=_;rw[hrd];exact run_enterLoop_outer _ _ _ _ _
 ·have:a.eval (.tmp gt)= .func (.func gf) #[] vs.toArray:=de;simp only[resolve,this];simp[go_sem]
 ·simp[invoke,go_sem,hcall]
 rw[ay];refine CallsIn.mono (callsIn_wide.2 (hit (Un S1 ρ0 (ds A x0)) W1 vs ρ0 (D+1) J Jx ?_ (mG cap vs dg al (fun _ _=>rfl)) ⟨x0,ρ0,by simpa using hm,bk⟩ ?_ ?_ ?_ ?_)) ?_
 ·rintro k (h |⟨i,B,E,C⟩)
  ·exact ai k h
  ·exact(bk.fresh i B k E C).2
 ·rintro k W ⟨y,ρ,_,u⟩;exact⟨u.size,fun b H I=>u.frame b H (fun h=>I (.inr h))⟩
 ·rintro k W W' ⟨y,ρ,E,u⟩ af;exact⟨y,ρ,E,(u.below af).1⟩
 ·rintro W W' ⟨z,ρ,ao,u,aj,cj⟩ af;exact⟨z,ρ,ao,(u.below af).1,(af.block _ (aBm.1 aj).1).trans aj,(af.block _ (aBm.1 cj).1).trans cj⟩
 ·
  rintro k item W0 W us au ⟨y,ρ,ak,ck⟩ af co;have u:=(ck.below af).1
  have cu:Ext (fun j=>Un S1 ρ0 (ds A x0) j\/(W1.heap.size<=j/\j<W0.heap.size)) (Un S1 ρ (ds A y)) W W:=⟨aAi _,fun k _ I=>⟨rfl,by
   rintro (h |⟨i,B,E,C⟩)
   ·exact I (.inl (.inl h))
   ·obtain⟨K,h4⟩:=ck.fresh i B k E C;rcases K with K | K
    ·exact I (.inr ⟨K,h4⟩)
    ·exact I (.inl (.inr K))⟩⟩
  obtain⟨it,dh,rfl⟩:∃it,its[k]? =some it/\enc it=item:=by
   rw[aBl] at au;cases hq:its[k]? with
   |none=>rw[hq] at au;cases au
   |some it=>rw[hq] at au;exact⟨it,rfl,by simpa using au⟩
  have cw:its.drop k=it::its.drop (k+1):=by
   obtain⟨ae,he⟩:=aCa.1 dh;rw[aCy ae,he]
  rw[cw] at ak;obtain⟨hl,bd⟩:=bl u;have cx:=Fv co;have hy:=run_yield (P:=F.P) (args:=us.toArray) hl (by rw[U];simp[cx,hps]);rw[U] at hy;refine⟨fn,_,assign,body,hy,roundIn_of_wpIn trivial ?_⟩;let F2:Frm:=⟨F.P,F.N,S1,W,lQ ρ (ds A y),some (D+1),[]⟩
  have cy:=u.size;have dr:W1.heap.size<=W.heap.size:=cy;have cz:Core F2 (ds A y) ρ W:=⟨fun k h=>by have:=ai k h;show k<W.heap.size;omega,aAi _,fun _ _ _=>rfl,rfl,rfl,rfl,u.own,fun i B b h H=>⟨.inr ⟨i,B,h,H⟩,(u.fresh i B b h H).2⟩,u.inj,u.apart⟩
  have c0:lP ρ0 ρ (dF (enc it)):=fun i hi=>by rw[hel it] at hi;simp at hi
  have c1:St F2 ⟨EN ps.toList (enc it) g,ds A y⟩ { tmps:=((ps.zip us.toArray).foldl (fun tmps (t,a)=>tmps.setIfInBounds t a) a.tmps),defers:=[] } W:=by
   refine⟨⟨ρ,cz,fun t s M=>?_⟩,?_,rfl⟩
   ·have c2:(ps.zip us.toArray).foldl (fun tmps (t,a)=>tmps.setIfInBounds t a) a.tmps=(ps.toList.zip us).foldl (fun tmps (t,a)=>tmps.setIfInBounds t a) a.tmps:=by
     rw[<-aEg];simp
    rw[c2];refine Yu ps.toList (enc it) us g a.tmps (fun t s M=>?_) (mG _ us co cu c0) (by simpa using (hps it).symm) (fun t M=>?_) t s M
    ·exact Slot.ok_mono s _ (Slot.ok_mono s _ (ah t s M) al (fun _ _=>rfl)) (bo u) (fun i hi=>az u (hbx A y) t s M i hi)
    ·rw[hz];have:=aAh.1 hpN t M;exact aAd this
   ·show ((ps.zip us.toArray).foldl (fun tmps (t,a)=>tmps.setIfInBounds t a) a.tmps).size=F.N;rw[<-aEg];rw[Wg];exact hz
  have c3:assign.wpIn F2.fe 0 F.P (Exit.then (run F2.fe F.P (AQ F2 (σ1 A it y)) []) (AQ F2 (σ1 A it y))) _ W:=hassign A S1 W (lQ ρ (ds A y)) (D+1) it y _ _ c1;refine wpIn_mono (show assign.wpIn (Fence.wide.inRound (D+1)) 0 F.P _ _ W from c3) ?_;have fin:∀{e:Exit} {a1:Act} {X:World},St F2 (σ1 A it y) a1 X->∃w2,(Instr.beginRound (D+1)).run F.P X= .ok () w2/\body.wpIn (Fence.wide.inRound (D+1)) 0 F.P (roundPost F.P (D+1) fun e W'=>(e= .returned (.bool true)/\J (k+1) W')\/(e= .returned (.bool false)/\Jx W')) a1 w2:=by
   intro _ a1 X dc;obtain⟨⟨ρ1,ab,av⟩,di,dj⟩:=dc;have bv:∀k,S1 k->¬lQ ρ (ds A y) k:=by rintro k hk ⟨i,B,E,C⟩;exact u.apart i B k E C hk
   have bw:X.heap[D+1]? =some (.loop (O .ready none)):=(ab.frame (D+1) (by show D+1<W.heap.size;have:W1.heap.size<=W.heap.size:=u.size;omega) (bv _ (.inr (.inr rfl)))).trans hl;have c4:X.heap[D]? =some (.deferred (some [])):=(ab.frame D (by show D<W.heap.size;have:W1.heap.size<=W.heap.size:=u.size;omega) (bv _ (.inr (.inl rfl)))).trans bd;have c5:=(aBm.1 bw).1;have bx:=run_beginRound (P:=F.P) bw (by rw[U]);obtain⟨w2,aq⟩:∃w2,X.putObj (D+1) (.loop { O .ready none with state:= .busy })=w2:=⟨_,rfl⟩
   rw[aq] at bx;have c6:w2.heap.size=X.heap.size:=by rw[<-aq];simp
   have a6:∀k,k≠D+1->w2.heap[k]? =X.heap[k]? :=fun k h=>by rw[<-aq];exact World.putObj_heap_other h
   have aj:w2.heap[D+1]? =some (.loop { O .ready none with state:= .busy }):=by rw[<-aq];exact World.putObj_heap_same c5
   let F3:Frm:=⟨F.P,F.N,S1,w2,lQ ρ1 (σ1 A it y).d,some (D+1),[]⟩
   have dt:W.heap.size<=X.heap.size:=ab.size;have du:W1.heap.size<=W.heap.size:=u.size;obtain⟨dk,dl⟩:=ab.turn (F':=F3) (l:=D+1) (.inr (.inr rfl)) rfl c6 a6 (aAi _) (fun k h=>by have:=ai k h;show k<w2.heap.size;omega) (fun _ _ _=>rfl) rfl rfl rfl (fun i B b h H=> .inr ⟨i,B,h,H⟩);refine⟨w2,bx,?_⟩;have bz:∀{d:List (Nat×Ent)} {ρ3:Nat->LV} {w3 w4:World} {o4:Obj},Core F3 d ρ3 w3->w4=w3.putObj (D+1) o4->(o4= .loop (O .ready none)->Core FL d ρ3 w4)/\Core FX d ρ3 w4/\w3.heap[D+1]? =some (.loop { O .ready none with state:= .busy })/\w4.heap[D+1]? =some o4/\w4.heap[D]? =some (.deferred (some [])):=by
    intro d ρ3 w3 w4 o4 hcc hw4;have b1:∀k,S1 k->¬lQ ρ1 (σ1 A it y).d k:=by rintro k hk ⟨i,B,E,C⟩;exact ab.apart i B k E C hk
    have dv:w2.heap.size<=w3.heap.size:=hcc.size;have b2:w3.heap[D+1]? =some (.loop { O .ready none with state:= .busy }):=(hcc.frame (D+1) (by show D+1<w2.heap.size;omega) (b1 _ (.inr (.inr rfl)))).trans aj;have c7:w3.heap[D]? =some (.deferred (some [])):=(hcc.frame D (by show D<w2.heap.size;omega) (b1 _ (.inr (.inl rfl)))).trans ((a6 D (by omega)).trans c4);have b3:w4.heap.size=w3.heap.size:=by rw[hw4];simp
    have ax:∀k,k≠D+1->w4.heap[k]? =w3.heap[k]? :=fun k h=>by rw[hw4];exact World.putObj_heap_other h
    have b4:w4.heap[D+1]? =some o4:=by rw[hw4];exact World.putObj_heap_same (aBm.1 b2).1
    have b5:∀k,k<W1.heap.size->lQ ρ1 (σ1 A it y).d k->V k:=by
     rintro k hk ⟨i,B,E,C⟩;rcases (ab.fresh i B k E C).1 with h |⟨i',dm,K,h4⟩
     ·have:W.heap.size<=k:=h;omega
     ·rcases (u.fresh i' dm k K h4).1 with h | h
      ·have:W1.heap.size<=k:=h;omega
      ·exact h
    have b6:∀k,k<W1.heap.size->¬V k->k≠D+1->w4.heap[k]? =W1.heap[k]? :=by
     intro k hk ad cf;rw[ax k cf,hcc.frame k (by show k<w2.heap.size;omega) (fun h=>ad (b5 k hk h))];show w2.heap[k]? =_;rw[a6 k cf,ab.frame k (by show k<W.heap.size;omega) (fun h=>?_)]
     ·exact u.frame k hk ad
     ·obtain⟨i,B,E,C⟩:=h;rcases (u.fresh i B k E C).1 with h | h
      ·have:W1.heap.size<=k:=h;omega
      ·exact ad h
    have a7:w4.os=w3.os/\w4.tape=w3.tape/\w4.output=w3.output:=by rw[hw4];exact⟨rfl,rfl,rfl⟩
    have a8:w2.os=X.os/\w2.tape=X.tape/\w2.output=X.output:=by rw[<-aq];exact⟨rfl,rfl,rfl⟩
    have b7:w4.os=W1.os:=a7.1.trans (hcc.os.trans (a8.1.trans (ab.os.trans u.os)));have b8:w4.tape=W1.tape:=a7.2.1.trans (hcc.tape.trans (a8.2.1.trans (ab.tape.trans u.tape)));have b9:w4.output=W1.output:=a7.2.2.trans (hcc.output.trans (a8.2.2.trans (ab.output.trans u.output)));have ca:∀i B b,aW d i=some B->pV (ρ3 i) b->W1.heap.size<=b\/V b:=by
     intro i B b h H;by_cases ae:b<W1.heap.size
     ·rcases (hcc.fresh i B b h H).1 with h' | h'
      ·have:w2.heap.size<=b:=h';omega
      ·exact .inr (b5 b ae h')
     ·exact .inl (by omega)
    have cb:∀k,S1 k->k<W1.heap.size:=ai;refine⟨fun dd=>?_,?_,b2,b4,by rw[ax D (by omega)];exact c7⟩
    ·exact(hcc.turn (F':=FL) (l:=D+1) (.inr (.inr rfl)) rfl b3 ax (by show W1.heap.size<=w4.heap.size;omega) cb (fun k hk ad=>by
      by_cases cc:k=D+1
      ·subst cc;exact(b4.trans (by rw[dd])).trans bj.symm
      ·exact b6 k hk ad cc) b7 b8 b9 ca).1
    ·exact(hcc.turn (F':=FX) (l:=D+1) (.inr (.inr rfl)) rfl b3 ax (by show W1.heap.size<=w4.heap.size;omega) cb (fun k hk ad=>b6 k hk (fun h=>ad (.inl h)) (fun h=>ad (.inr h))) b7 b8 b9 (fun i B b h H=>(ca i B b h H).imp (fun h=>h) .inl)).1
   have c8:St F3 (σ1 A it y) a1 w2:=⟨⟨ρ1,dk,fun t s M=>Slot.ok_mono s _ (av t s M) dl (fun _ _=>rfl)⟩,di,dj⟩
   cases hsr:step it y with
   |none=>simp only[rng,hsr] at ak;cases ak
   |some r=>
    have c9:body.wpIn F3.fe 0 F.P (Exit.then (run F3.fe F.P (RB F3 (ds A) (dx A) r) []) (RB F3 (ds A) (dx A) r)) a1 w2:=hbody A S1 w2 _ (D+1) it y r hsr _ _ c8;refine wpIn_mono (show body.wpIn (Fence.wide.inRound (D+1)) 0 F.P _ a1 w2 from c9) ?_;intro e a3 w3 hq;simp only[rng,hsr] at ak;cases r with
    |next y'=>
     cases e<;>simp only[RB,Exit.then,run] at hq;obtain⟨⟨ρ3,be,_⟩,_⟩:=hq;obtain⟨E,C,K,h4,h5⟩:=bz (o4:= .loop (O .ready none)) be rfl;have a9:=run_endRound (P:=F.P) none K;refine⟨_,_,a9,.inl ⟨rfl,y',ρ3,?_,?_⟩⟩
     ·exact ak
     ·rw[U] at E ⊢;exact E rfl
    |done z=>
     have ao:o= .ret z:=by simpa using ak.symm
     cases e<;>simp only[RB,Exit.then,run] at hq;obtain⟨⟨ρ3,be,_⟩,_⟩:=hq;obtain⟨_,C,K,h4,h5⟩:=bz (o4:= .loop (O .done (some .ret))) be rfl;have a9:=run_endRound (P:=F.P) (some .ret) K;refine⟨_,_,a9,.inr ⟨rfl,z,ρ3,ao,?_,?_,?_⟩⟩
     ·rw[U] at C ⊢;exact C
     ·rw[U] at h4 ⊢;exact h4
     ·rw[U] at h5 ⊢;exact h5
  intro e a1 X hq;cases e<;>simp only[AQ,Exit.then,run] at hq ⊢<;>first | exact fin (e:= .normal) hq | exact hq
 ·
  rintro e W2 ⟨⟨v,rfl⟩,⟨y,ρ,E,u⟩|⟨z,ρ,ao,u,aj,dn⟩⟩
  ·obtain⟨hl,bd⟩:=bl u;have da:o= .brk y:=by
    have C:its.drop (List.map enc its).length=[]:=by simp
    rw[C] at E;simpa[rng] using E.symm
   refine⟨none,_,(by have:=run_endLoop (P:=F.P) hl (by rw[U];simp);rw[U] at this;exact this),?_⟩;obtain⟨W3,aa⟩:∃W3,W2.putObj (D+1) (.loop { O .ready none with state:= .exhausted })=W3:=⟨_,rfl⟩
   have ba:∀k,k≠D+1->W3.heap[k]? =W2.heap[k]? :=fun k h=>by rw[<-aa];exact World.putObj_heap_other h
   obtain⟨bf,bg,bh⟩:=bq (W':=W3) (.inl rfl) u (by rw[<-aa];simp) ba (by rw[<-aa];rfl) (by rw[<-aa];rfl) (by rw[<-aa];rfl) bd;have bb:=hk A y da S1 W3 (lQ ρ (ds A y)) _ bf { a with defers:=[{ target:= .collected D,args:= #[] }]++a.defers } W3 ⟨⟨ρ,bg,fun t s M=>?_⟩,hz,by show _++a.defers=_;rw[ch];rfl⟩
   ·have bc:W2.putObj (D+1) (.loop { state:= .exhausted,pending:=none,fn,tmps:=a.tmps,params:=ps,assign,body,defers:=D })=W3:=by rw[<-aa,U]
    rw[bc];simp only[Exit.then];exact bb
   ·exact Slot.ok_mono s _ (Slot.ok_mono s _ (Slot.ok_mono s _ (ah t s M) al (fun _ _=>rfl)) (bo u) (fun i hi=>az u (hbx A y) t s M i hi)) bh (fun _ _=>rfl)
  ·refine⟨some .ret,_,(by have:=run_endLoop (P:=F.P) aj (by rw[U];simp);rw[U] at this;exact this),?_⟩;obtain⟨W3,aa⟩:∃W3,W2.putObj (D+1) (.loop { O .done (some .ret) with state:= .exhausted })=W3:=⟨_,rfl⟩
   have ba:∀k,k≠D+1->W3.heap[k]? =W2.heap[k]? :=fun k h=>by rw[<-aa];exact World.putObj_heap_other h
   obtain⟨bf,bg,bh⟩:=bq (W':=W3) (.inr rfl) u (by rw[<-aa];simp) ba (by rw[<-aa];rfl) (by rw[<-aa];rfl) (by rw[<-aa];rfl) dn;have bb:=hx A z ao S1 W3 (lQ ρ (dx A z)) _ bf { a with defers:=[{ target:= .collected D,args:= #[] }]++a.defers } W3 ⟨⟨ρ,bg,fun t s M=>?_⟩,hz,by show _++a.defers=_;rw[ch];rfl⟩
   ·have bc:W2.putObj (D+1) (.loop { state:= .exhausted,pending:=some .ret,fn,tmps:=a.tmps,params:=ps,assign,body,defers:=D })=W3:=by rw[<-aa,U]
    show (Code.ret).wpIn _ _ _ _ _ _;rw[bc];exact wpIn_ret bb
   ·exact Slot.ok_mono s _ (Slot.ok_mono s _ (Slot.ok_mono s _ (ah t s M) al (fun _ _=>rfl)) (cr u) (fun i hi=>az u (hbz A z) t s M i hi)) bh (fun _ _=>rfl)
def rg{ι α δ γ:Type}(step:ι->α->Option (Step α δ))(its:List ι)(x:α)(k:α->Option γ)(kx:δ->Option γ):Option γ:=match rng step its x with
 |none=>none
 |some (.brk y)=>k y
 |some (.ret z)=>kx z
theorem Qo{ι α δ γ:Type}{step:ι->α->Option (Step α δ)}{its:List ι}{x:α}{k:α->Option γ}{kx:δ->Option γ}{r:γ}(h:rg step its x k kx=some r):
  ∃o,rng step its x=some o/\(∀y,o= .brk y->k y=some r)/\(∀z,o= .ret z->kx z=some r):=by
 unfold rg at h;cases hr:rng step its x with
 |none=>rw[hr] at h;cases h
 |some o=>
  rw[hr] at h;refine⟨o,rfl,fun y e=>?_,fun z e=>?_⟩
  ·subst e;exact h
  ·subst e;exact h
theorem NH{F:Frm}{σ σ1:AS}(h:Sub F σ σ1):W F [] σ (AQ F σ1):=fun a w u=>h a w u
theorem Qp{α δ:Type}{F:Frm}{σ:AS}{ds:α->List (Nat×Ent)}{dx:δ->List (Nat×Ent)}{y:α}(h:Sub F σ ⟨[],ds y⟩):W F [] σ (RB F ds dx (.next y)):=fun a w u=>h a w u
theorem EO{α δ:Type}{F:Frm}{σ:AS}{ds:α->List (Nat×Ent)}{dx:δ->List (Nat×Ent)}{z:δ}(h:Sub F σ ⟨[],dx z⟩):XQ F σ (RB F ds dx (.done z)) .ret:=fun a w u=>h a w u
def small{α:Type}(xs:List α):Option Unit:=if (xs.length:Int)<=4294967296 then some () else none
theorem Ev{α:Type}{xs:List α}{u:Unit}(h:small xs=some u):(xs.length:Int)<=4294967296:=by
 unfold small at h;split at h
 ·assumption
 ·cases h
def chkn(n:Int):Option Unit:=if 1<=n/\n<=4294967296 then some () else none
theorem Df{n:Int}{u:Unit}(h:chkn n=some u):1<=n/\n<=4294967296:=by
 unfold chkn at h;split at h
 ·assumption
 ·cases h
end Go.Sw
namespace Go.Sw
open Go Go.RowKit
def Enc.cst(u:Value)(h:u.oneCell'=true):Enc Unit where
 n:=1
 agg:=false
 ok _ _ _ cs:=cs=[u]
 len h:=by rw[h];rfl
 one _:=rfl
 cell hc c hm:=by rw[hc] at hm;simp at hm;subst hm;exact h
 mono h _:=h
instance (u:Value) (h:u.oneCell'=true):FlatE (Enc.cst u h):=⟨fun h=>h⟩
theorem Gc{u:Value}{hu:u.oneCell'=true}{S w v}:(Enc.cst u hu).val () S w v↔v=u:=
 ⟨fun⟨_,z,A⟩=>by have:_=[u]:=z;subst this;exact A,fun h=>⟨_,rfl,h⟩⟩
def Enc.cp{α:Type}(b off:Nat)(e:Enc α):Enc α where
 n:=1
 agg:=false
 ok x S w cs:=cs=[.pointer (some ⟨b,off,none⟩)]/\∃u,b<w.heap.size/\¬S b/\MemAt w b off u/\e.ok x S w u
 len h:=by rw[h.1];rfl
 one _:=rfl
 cell hc c hm:=by rw[hc.1] at hm;simp at hm;subst hm;rfl
 mono h k:=by
  obtain⟨B,u,z,A,C,D⟩:=h;exact⟨B,u,aAy z k.size,(k.keep b z A).2,C.mono z A k,e.mono D k⟩
theorem La{α:Type}{b off:Nat}{e:Enc α}{x:α}{S w v}:(Enc.cp b off e).val x S w v↔v= .pointer (some ⟨b,off,none⟩)/\∃ds,b<w.heap.size/\¬S b/\MemAt w b off ds/\e.ok x S w ds:=
 ⟨fun⟨_,u,z⟩=>by obtain⟨rfl,A⟩:=u;exact⟨z,A⟩,fun h=>⟨_,⟨rfl,h.2⟩,h.1⟩⟩
section
variable {F:Frm}{σ:AS}{s:Slot}{d:Option Tmp}{ty:TypeId}{p:String}{af:Array Edge}{gd:Option (Nat×Bool)}{x y z:Operand}
theorem dQ{u:Value}(h:u.oneCell'=true):JO F ⟨d,.assign (.const u),ty,p,af,gd⟩ σ (.v (Enc.cst u h) ()) []:=by
 intro ρ S a w K;exact OpWp.value (w':=w) (v:=u) (by simp[execOp,Act.eval]) (Res.same (by simp only[Slot.ok];exact Gc.2 rfl))
theorem lN{α:Type}{b off:Nat}{e:Enc α}{v:α}{U:TypeId}(hx:cK σ.g x=some (.v (Enc.cp b off e) v))(hA:∀w,(isAgg U).run F.P w= .ok e.agg w)(hS:∀w,(sizeOf U).run F.P w= .ok e.n w):
  JO F ⟨d,.load U x,ty,p,af,gd⟩ σ (.v e v) []:=by
 intro ρ S a w K;have h:=K.slot x (by simp[Op.operands]) _ hx;simp only[Slot.ok] at h;obtain⟨A,u,C,D,B,z⟩:=La.1 h;refine OpWp.value (w':=w) (v:=e.pk u) ?_ (Res.same (by simp only[Slot.ok];exact⟨u,z,rfl⟩));have:=Es (P:=F.P) B z hA hS;simp[execOp,A,Instr.loadAt,Instr.sureAddr,this]
end
def SW(S:Nat->Prop)(B:Nat)(W:World)(j:Nat):Prop:=S j\/(B<=j/\j<W.heap.size)
abbrev FW(P:Program)(N:Nat)(S:Nat->Prop)(B:Nat)(W:World):Frm:=⟨P,N,SW S B W,W,fun _=>False,none,[]⟩
structure Its (P:Program) (S:Nat->Prop) (w:World) (ρ:Nat->LV) (l:Nat) (J:Nat->World->Prop) (Jx:World->Prop) (items:List (List Slot)):Prop where
 low:∀k,S k->k<w.heap.size
 keep:∀k W,J k W->w.heap.size<=W.heap.size/\∀b,b<w.heap.size->¬S b->W.heap[b]? =w.heap[b]?
 below:∀k W W',J k W->Below W.heap.size W W'->J k W'
 belowx:∀W W',Jx W->Below W.heap.size W W'->Jx W'
 yields:∀k item W0 W us,items[k]? =some item->J k W0->Below W0.heap.size W0 W->aV ρ (SW S w.heap.size W0) W item us->∃fn tmps assign body,(Instr.yield l us.toArray).run P W= .ok (.round l fn tmps assign body) W/\
   RoundIn Fence.wide 0 P l fn tmps assign body W fun e W'=>(e= .returned (.bool true)/\J (k+1) W')\/(e= .returned (.bool false)/\Jx W')
def Again(ρ:Nat->LV)(S:Nat->Prop)(w:World)(s:Slot):Prop:=s.lab=[]/\∀S1 W1 S2 W2 u,s.ok ρ S1 W1 u->Ext S S2 w W2->s.ok ρ S2 W2 u
theorem Again.flat{α:Type}{e:Enc α}[FlatE e]{x:α}{ρ S w}:Again ρ S w (.v e x):=⟨rfl,fun _ _ _ _ u h _=>by
 simp only[Slot.ok] at h ⊢;obtain⟨z,A,B⟩:=h
 exact⟨z,FlatE.flat A,B⟩⟩
theorem Again.cp{α:Type}{e:Enc α}{x:α}{b off:Nat}{ρ S w}(h:(Slot.v (Enc.cp b off e) x).ok ρ S w (.pointer (some ⟨b,off,none⟩))):Again ρ S w (.v (Enc.cp b off e) x):=⟨rfl,fun _ _ _ _ u z k=>by
 simp only[Slot.ok] at h z ⊢;obtain⟨rfl,_⟩:=La.1 z
 exact gB h k⟩
inductive AgainL (ρ:Nat->LV) (S:Nat->Prop) (w:World):List (Nat×Slot)->Prop
 |nil:AgainL ρ S w []
 |cons {t:Nat} {s:Slot} {g:List (Nat×Slot)}:Again ρ S w s->AgainL ρ S w g->AgainL ρ S w ((t,s)::g)
theorem AgainL.spec{ρ S w}{g:List (Nat×Slot)}(h:AgainL ρ S w g):∀t s,lk g t=some s->Again ρ S w s:=by
 induction h with
 |nil=>intro t s h;simp[lk] at h
 |cons u _ z=>
  intro t s h;rw[lK] at h;split at h
  ·cases h;exact u
  ·exact z t s h
inductive SubS (g:List (Nat×Slot)):List (Nat×Slot)->Prop
 |nil:SubS g []
 |cons {t:Nat} {s:Slot} {g':List (Nat×Slot)}:lk g t=some s->SubS g g'->SubS g ((t,s)::g')
theorem SubS.spec{g g':List (Nat×Slot)}(h:SubS g g'):∀t s,lk g' t=some s->lk g t=some s:=by
 induction h with
 |nil=>intro t s h;simp[lk] at h
 |cons z _ A=>
  intro t s h;rw[lK] at h;split at h
  ·rename_i u;subst u;cases h;exact z
  ·exact A t s h
theorem Ok{F:Frm}{σ:AS}{g':List (Nat×Slot)}(h:SubS σ.g g'):Sub F σ ⟨g',σ.d⟩:=fun a w ⟨⟨ρ,u,z⟩,A,B⟩=>⟨⟨ρ,u,fun t s C=>z t s (h.spec t s C)⟩,A,B⟩
theorem jV{F:Frm}{σ:AS}{g':List (Nat×Slot)}(hd:σ.d=[])(h:SubS σ.g g'):Sub F σ ⟨g',[]⟩:=by rw[<-hd];exact Ok h
section
variable {P:Program}{N:Nat}{S:Nat->Prop}{w:World}{ρ:Nat->LV}{l:Nat}{J:Nat->World->Prop}{Jx:World->Prop}{items:List (List Slot)}
theorem Its.ext(I:Its P S w ρ l J Jx items){k:Nat}{W:World}(h:J k W):Ext S (SW S w.heap.size W) w W:=by
 obtain⟨A,B⟩:=I.keep k W h;exact⟨A,fun b z u=>⟨B b z u,by rintro (h | h);exact u h;omega⟩⟩
theorem Core.none{F:Frm}{ρ:Nat->LV}(hl:∀k,F.S0 k->k<F.w0.heap.size):Core F [] ρ F.w0:=
 ⟨hl,aAi _,fun _ _ _=>rfl,rfl,rfl,rfl,fun i u h=>by simp[aW] at h,fun i u b h=>by simp[aW] at h,fun i j u z b h=>by simp[aW] at h,fun i u b h=>by simp[aW] at h⟩
theorem Un.none{S:Nat->Prop}{ρ:Nat->LV}:Un S ρ []=S:=by
 funext k;refine propext ⟨fun h=>?_,.inl⟩;rcases h with h |⟨i,u,h,_⟩
 ·exact h
 ·simp[aW] at h
theorem Core.belowN{F:Frm}(hR:∀k,¬F.R k){d:List (Nat×Ent)}{ρ:Nat->LV}{W:World}(hc:Core F d ρ W):Below F.w0.heap.size F.w0 W:=⟨hc.os,hc.tape,hc.output,hc.size,fun k h=>hc.frame k h (hR k)⟩
theorem Its.start(I:Its P S w ρ l J Jx items){k:Nat}{W:World}(hJ:J k W){g:List (Nat×Slot)}(hg:AgainL ρ S w g){ρ1:Nat->LV}{S1:Nat->Prop}{W1:World}{a:Act}(hs:∀t s,lk g t=some s->s.ok ρ1 S1 W1 (a.tmps.getD t undef))(hz:a.tmps.size=N)(hd:a.defers=[]):
  St (FW P N S w.heap.size W) ⟨g,[]⟩ a W:=by
 refine⟨⟨ρ,Core.none (F:=FW P N S w.heap.size W) (fun k h=>?_),fun t s u=>?_⟩,hz,hd⟩
 ·show k<W.heap.size;rcases h with h | h
  ·have:=I.low k h;have:=(I.keep _ W hJ).1;omega
  ·exact h.2
 ·obtain⟨A,B⟩:=hg.spec t s u;rw[Un.none];refine B S1 W1 _ W _ (Slot.ok_mono s _ (hs t s u) (Ext.refl _ _) (fun i z=>?_)) (I.ext hJ);rw[A] at z;simp at z
def IQ(N:Nat)(J:Nat->World->Prop)(m:Nat)(gs:Nat->List (Nat×Slot))(Q:Exit->Act->World->Prop)(k:Nat):Exit->Act->World->Prop
 | .normal,a,h=>k<m/\J (k+1) h/\∃F',F'.N=N/\F'.df=[]/\St F' ⟨gs (k+1),[]⟩ a h
 |e,a,h=>Q e a h
theorem Qq{c:Code}{cs:List Code}{Q:Exit->Act->World->Prop}(I:Its P S w ρ l J Jx items){W0:World}{σ:AS}(gs:Nat->List (Nat×Slot))(hg:∀k,AgainL ρ S w (gs k))(h0:Sub (FW P N S w.heap.size W0) σ ⟨gs 0,[]⟩)(hJ0:J 0 W0)
  (h:∀k V,J k V->k<=items.length->Sw.W (FW P N S w.heap.size V) [c] ⟨gs k,[]⟩ (IQ N J items.length gs Q k)):Sw.W (FW P N S w.heap.size W0) (.loop c::cs) σ Q:=by
 intro a wc U;obtain⟨⟨ρ1,aa,ab⟩,ac,ad⟩:=h0 a wc U;have E:J 0 wc:=I.below 0 W0 wc hJ0 (aa.belowN (fun _ h=>h));have R:=I.start (N:=N) E (hg 0) ab ac ad;let u:Act->World->Nat->Prop:=fun a V m=>∃k,k+m=items.length/\J k V/\St (FW P N S w.heap.size V) ⟨gs k,[]⟩ a V
 have F:∀a V,(∃m,u a V m)->∃m,u a V m/\∀k,u a V k->m<=k:=by
  rintro a V ⟨m,hm⟩
  induction m using Nat.strongRecOn with
  |_ m ih=>
   by_cases G:∃k,k<m/\u a V k
   ·obtain⟨k,M,D⟩:=G;exact ih k M D
   ·exact⟨m,hm,fun k A=>Nat.le_of_not_lt fun X=>G ⟨k,X,A⟩⟩
 classical
 let μ:Act->World->Nat:=fun a V=>if z:∃m,u a V m then Classical.choose (F a V z) else 0
 have H:∀a V (z:∃m,u a V m),u a V (μ a V)/\∀k,u a V k->μ a V<=k:=by
  intro a V z;have:=aD1 (F a V z);simp only[μ,dif_pos z];exact this
 refine wpIn_loop (Q:=Exit.then (run Fence.wide P Q cs) Q) (fun a V=>∃m,u a V m) μ ⟨items.length,0,by simp,E,R⟩ fun a V z=>?_;obtain⟨⟨k,M,D,h3⟩,af⟩:=H a V z;have A:=h k V D (by omega) a V h3;refine wpIn_mono (show c.wpIn Fence.wide 0 P _ a V from A) ?_;intro e K L C;cases e<;>simp only[Exit.then,run,IQ] at C ⊢<;>try exact C
 obtain⟨q1,O,F',q3,q4,⟨ρ2,ah,ae⟩,q5,q6⟩:=C;have T:=I.start (N:=N) O (hg (k+1)) ae (by rw[q5,q3]) (by rw[q6,q4]);have B:u K L (items.length - (k+1)):=⟨k+1,by omega,O,T⟩
 refine⟨⟨_,B⟩,?_⟩;have:=(H K L ⟨_,B⟩).2 _ B;omega
theorem Lb{cs:List Code}{Q:Exit->Act->World->Prop}(I:Its P S w ρ l J Jx items){V:World}{k id d d':Nat}{item:List Slot}{pre:List Oper}{yt:Tmp}{xs:List Operand}{ts:Array TypeId}{ty ty':TypeId}{p p':String}{af af':Array Edge}{T:TypeId}
  {σ σ1:AS} {g2:List (Nat×Slot)} (hJ:J k V) (hitem:items[k]? =some item) (hpre:Sw.J (FW P N S w.heap.size V) (pre++[(⟨some d,.call ⟨.value (.tmp yt),xs.toArray,ts⟩,ty,p,af,none⟩:Oper),⟨some d',.unOp .not T (.tmp d),ty',p',af',none⟩]).toArray pre σ σ1)
  (hy:lk σ1.g yt=some (.v (Enc.cst (.func (.yield l) #[] #[]) rfl) ())) (ha:Args σ1 false xs item) (hil:dF item=[]) (hd1:σ1.d=[]) (hd:Nat.blt d N=true) (hd':Nat.blt d' N=true) (hag:AgainL ρ S w g2) (hg2:SubS σ1.g g2)
  (ht:∀V',J (k+1) V'->Sw.W (FW P N S w.heap.size V') cs ⟨(d',.v Enc.bool false)::(d,.v Enc.bool true)::g2,[]⟩ Q)
  (hf:∀V',Jx V'->Sw.W ⟨P,N,fun _=>False,V',fun _=>False,none,[]⟩ cs ⟨[(d',.v Enc.bool true)],[]⟩ Q):
  Sw.W (FW P N S w.heap.size V) (.region id (pre++[(⟨some d,.call ⟨.value (.tmp yt),xs.toArray,ts⟩,ty,p,af,none⟩:Oper),⟨some d',.unOp .not T (.tmp d),ty',p',af',none⟩]).toArray false::cs) σ Q:=by
 intro a wc ak;refine wpIn_region_lit ?_;refine hpre _ _ a wc ak fun u w1 al=>?_;obtain⟨⟨ρ1,ab,L⟩,U,ac⟩:=al;have ah:Below V.heap.size V w1:=ab.belowN (fun _ h=>h);have H:=L yt _ hy;simp only[Slot.ok] at H;have H:=Gc.1 H;have K:=bT ab L (Op.call ⟨.value (.tmp yt),xs.toArray,ts⟩).operands;have X:=ha.spec (ys:=(Op.call ⟨.value (.tmp yt),xs.toArray,ts⟩).operands) (fun x R=>by simp[Op.operands,Call.operands,R]) K;rw[hd1,Un.none] at X;have ai:aV ρ (SW S w.heap.size V) w1 item (xs.map u.eval):=mG _ _ X (by simp only[aAw,aA4];exact Ext.refl _ _) (fun i C=>by rw[hil] at C;simp at C);obtain⟨fn,ad,ae,body,h1,G⟩:=I.yields k item V w1 _ hitem hJ ah ai;have aj:(execOp u.eval ⟨some d,.call ⟨.value (.tmp yt),xs.toArray,ts⟩,ty,p,af,none⟩).run P w1= .ok (.round l fn ad ae body) w1:=by
  have e1:u.eval (.tmp yt)= .func (.yield l) #[] #[]:=H;have e2:(xs.toArray.map u.eval)=(xs.map u.eval).toArray:=by simp
  simp only[execOp,resolve,e1];simp[go_sem,e2,h1]
 refine zT (F:=FW P N S w.heap.size V) (K:=fun v w'=>(v= .bool true/\J (k+1) w')\/(v= .bool false/\Jx w')) (yP (g:=σ1.g) (GK.none rfl) (fun t x _ R=>L t _ R)) (.inr (.inr (.inr ⟨l,fn,ad,ae,body,w1,aj,G.mono ?_⟩))) ?_
 ·rintro e w' (⟨rfl,A⟩|⟨rfl,A⟩)
  ·exact⟨_,rfl,.inl ⟨rfl,A⟩⟩
  ·exact⟨_,rfl,.inr ⟨rfl,A⟩⟩
 have aa:d<u.tmps.size:=by rw[U];exact aAd hd
 rintro v w' (⟨rfl,A⟩|⟨rfl,A⟩)
 ·have M:St (FW P N S w.heap.size w') ⟨(d,.v Enc.bool true)::g2,[]⟩ (u.put (some d) (.bool true)) w':=by
   refine⟨⟨ρ,Core.none (F:=FW P N S w.heap.size w') (fun q h=>?_),fun t s z=>?_⟩,by rw[kG,U],ac⟩
   ·show q<w'.heap.size;rcases h with h | h
    ·have:=I.low q h;have:=(I.keep _ w' A).1;omega
    ·exact h.2
   ·rw[lK] at z;rw[kH u d _ t aa];split at z
    ·rename_i B;cases z;rw[aAn B];exact mS true _ _ _
    ·rename_i B;rw[aAj B,Un.none];obtain⟨k1,k2⟩:=hag.spec t s z;refine k2 _ w1 _ w' _ (Slot.ok_mono s _ (L t s (hg2.spec t s z)) (Ext.refl _ _) (fun i C=>?_)) (I.ext A);rw[k1] at C;simp at C
  have O:Sw.J (FW P N S w.heap.size w') (pre++[(⟨some d,.call ⟨.value (.tmp yt),xs.toArray,ts⟩,ty,p,af,none⟩:Oper),⟨some d',.unOp .not T (.tmp d),ty',p',af',none⟩]).toArray [(⟨some d',.unOp .not T (.tmp d),ty',p',af',none⟩:Oper)] ⟨(d,.v Enc.bool true)::g2,[]⟩ ⟨(d',.v Enc.bool false)::(d,.v Enc.bool true)::g2,[]⟩:=
   Sw.J.cons (GK.none rfl) (Er (b:=true) (by simp[cK,lk])) rfl hd' Sw.J.nil
  have:=O (Exit.then (run Fence.wide P Q cs) Q) [] _ w' M (fun D E G=>wpListIn_nil (show run Fence.wide P Q cs D E from ht w' A D E G));exact this
 ·have M:St ⟨P,N,fun _=>False,w',fun _=>False,none,[]⟩ ⟨[(d,.v Enc.bool false)],[]⟩ (u.put (some d) (.bool false)) w':=by
   refine⟨⟨ρ,Core.none (F:=⟨P,N,fun _=>False,w',fun _=>False,none,[]⟩) (fun q h=>h.elim),fun t s z=>?_⟩,by rw[kG,U],ac⟩;rw[lK] at z;rw[kH u d _ t aa];split at z
   ·rename_i B;cases z;rw[aAn B];exact mS false _ _ _
   ·simp[lk] at z
  have O:Sw.J ⟨P,N,fun _=>False,w',fun _=>False,none,[]⟩ (pre++[(⟨some d,.call ⟨.value (.tmp yt),xs.toArray,ts⟩,ty,p,af,none⟩:Oper),⟨some d',.unOp .not T (.tmp d),ty',p',af',none⟩]).toArray [(⟨some d',.unOp .not T (.tmp d),ty',p',af',none⟩:Oper)] ⟨[(d,.v Enc.bool false)],[]⟩ ⟨[(d',.v Enc.bool true)],[]⟩:=
   Sw.J.cons (GK.none rfl) (Er (b:=false) (by simp[cK,lk])) rfl hd' (Sw.J.fin (Ok (.cons (by simp[lk,AS.put]) .nil)))
  have:=O (Exit.then (run Fence.wide P Q cs) Q) [] _ w' M (fun D E G=>wpListIn_nil (show run Fence.wide P Q cs D E from hf w' A D E G));exact this
def RetI(P:Program)(fn:Func)(J:Nat->World->Prop)(Jx:World->Prop)(m:Nat):Exit->Act->World->Prop:=bodyPost P fn fun e h=>(∃v,e= .returned v)/\(J m h\/Jx h)
theorem RetI.of{fn:Func}{m:Nat}(hrs:fn.results= #[]){e:Exit}(he:e= .normal\/e= .ret){a:Act}{V:World}(hd:a.defers=[])(h:J m V\/Jx V):RetI P fn J Jx m e a V:=by
 have z:a.defers=[]/\∃v,(results fn a.tmps).run P V= .ok v V/\((∃u,Ending.returned v= .returned u)/\(J m V\/Jx V)):=⟨hd,_,Sp hrs,⟨_,rfl⟩,h⟩
 rcases he with rfl | rfl<;>exact z
theorem Qr{gs:Nat->List (Nat×Slot)}{Q:Exit->Act->World->Prop}(I:Its P S w ρ l J Jx items){k:Nat}{V:World}{σ:AS}(hJ:J (k+1) V)(hk:k<items.length)(h:Sub (FW P N S w.heap.size V) σ ⟨gs (k+1),[]⟩):Sw.W (FW P N S w.heap.size V) [] σ (IQ N J items.length gs Q k):=by
 intro a z A;have u:=h a z A;obtain⟨ρ1,B,_⟩:=u.core;exact⟨hk,I.below _ V z hJ (B.belowN (fun _ h=>h)),_,rfl,rfl,u⟩
theorem Wh{fn:Func}{gs:Nat->List (Nat×Slot)}{k:Nat}{id:Nat}{Q':Exit->Act->World->Prop}(I:Its P S w ρ l J Jx items)(hrs:fn.results= #[]){V:World}{σ:AS}(hJ:J k V)(hk:k=items.length)(hQ:∀a V',RetI P fn J Jx items.length .normal a V'->Q' (.exit id) a V'):XQ (FW P N S w.heap.size V) σ (IQ N J items.length gs Q' k) (.exit id):=by
 intro a u z;obtain⟨ρ1,A,_⟩:=z.core;exact hQ a u (RetI.of hrs (.inl rfl) z.defers (.inl (hk ▸ I.below _ V u hJ (A.belowN (fun _ h=>h)))))
theorem Qs{fn:Func}{Q':Exit->Act->World->Prop}(I:Its P S w ρ l J Jx items)(hrs:fn.results= #[]){V:World}{σ:AS}(hJ:Jx V)(hQ:∀a V',RetI P fn J Jx items.length .ret a V'->Q' .ret a V'):XQ ⟨P,N,fun _=>False,V,fun _=>False,none,[]⟩ σ Q' .ret:=by
 intro a u z;obtain⟨ρ1,A,_⟩:=z.core;exact hQ a u (RetI.of hrs (.inr rfl) z.defers (.inr (I.belowx V u hJ (A.belowN (fun _ h=>h)))))
end
theorem Ol{P:Program}{f:FuncId}{fn:Func}{c:Code}{N:Nat}{cap:List Slot}{items:List (List Slot)}{X:Type}
  (hf:P.funcs[f]? =some fn) (hb:fn.body=some c) (hN:fn.ntmps=N) (hle:Nat.ble (cap.length+1) N=true) (us:X->List Value) (gx:X->List (Nat×Slot))
  (hcap:∀(ρ:Nat->LV) (S:Nat->Prop) (w:World) (vs:List Value),aV ρ S w cap vs->∃x,vs=us x/\AgainL ρ S w (gx x)/\∀t s,lk (gx x) t=some s->∃j u,t=j+1/\vs[j]? =some u/\s.ok ρ S w u)
  (h:∀S w ρ l J Jx x,Its P S w ρ l J Jx items->J 0 w->AgainL ρ S w (gx x)->W (FW P N S w.heap.size w) [c] ⟨(0,.v (Enc.cst (.func (.yield l) #[] #[]) rfl) ())::gx x,[]⟩ (RetI P fn J Jx items.length)):IterC P f cap items:=by
 intro S w vs ρ l J Jx hlow hv hJ0 hkeep hbelow hbelx hY;have I:Its P S w ρ l J Jx items:=⟨hlow,hkeep,hbelow,hbelx,hY⟩
 obtain⟨x,O,C,K⟩:=hcap ρ S w vs hv;refine calls_of_wp hf hb ?_;have L:=Fv hv;have hle:=aAd hle;have D:St (FW P N S w.heap.size w) ⟨(0,.v (Enc.cst (.func (.yield l) #[] #[]) rfl) ())::gx x,[]⟩ { tmps:=(.func (.yield l) #[] #[]::vs).toArray++Array.replicate (fn.ntmps - (Value.func (.yield l) #[] #[]::vs).toArray.size) undef,defers:=[] } w:=by
  have E:AgainL ρ S w ((0,.v (Enc.cst (.func (.yield l) #[] #[]) rfl) ())::gx x):= .cons (@Again.flat _ (Enc.cst (.func (.yield l) #[] #[]) rfl) ⟨fun h=>h⟩ _ _ _ _) C;refine I.start (N:=N) hJ0 E (ρ1:=ρ) (S1:=S) (W1:=w) (fun t s A=>?_) ?_ rfl
  ·rw[lK] at A;split at A
   ·rename_i G;subst G;cases A;simp only[Slot.ok];refine Gc.2 ?_;simp[aA7,Array.getElem?_append]
   ·obtain⟨j,u,rfl,z,B⟩:=K t s A;have F:j<vs.length:=by
     rcases aBc j vs.length with h | h
     ·exact h
     ·simp[aAv h] at z
    have:((Value.func (.yield l) #[] #[]::vs).toArray++Array.replicate (fn.ntmps - (Value.func (.yield l) #[] #[]::vs).toArray.size) undef).getD (j+1) undef=u:=by
     rw[aA7,aDl (by simpa using F)];simp[z]
    rw[this];exact B
  ·simp only[aEi,aD7,aEj,aAq];omega
 have z:=h S w ρ l J Jx x I hJ0 C _ w D;have B:c.wpIn Fence.wide 0 P (Exit.then (run Fence.wide P (RetI P fn J Jx items.length) []) (RetI P fn J Jx items.length)) _ w:=z;refine wpIn_wide.1 (wpIn_mono B ?_);intro e a M H;cases e<;>exact H
theorem BD{P:Program}{f:FuncId}{fn:Func}{c:Code}{N:Nat}{α:Type}{e:Enc α}{z:α}{items:List (List Slot)}
  (hf:P.funcs[f]? =some fn) (hb:fn.body=some c) (hN:fn.ntmps=N) (hle:Nat.ble 2 N=true)
  (h:∀S w ρ l J Jx b off,Its P S w ρ l J Jx items->J 0 w->Again ρ S w (.v (Enc.cp b off e) z)->W (FW P N S w.heap.size w) [c] ⟨[(0,.v (Enc.cst (.func (.yield l) #[] #[]) rfl) ()),(1,.v (Enc.cp b off e) z)],[]⟩ (RetI P fn J Jx items.length)):IterC P f [.pst e z] items:=by
 refine Ol (X:=Nat×Nat) hf hb hN hle (fun x=>[.pointer (some ⟨x.1,x.2,none⟩)]) (fun x=>[(1,.v (Enc.cp x.1 x.2 e) z)]) (fun ρ S w vs C=>?_) (fun S w ρ l J Jx x I E F=>h S w ρ l J Jx x.1 x.2 I E (F.spec 1 _ rfl));simp only[aV,Slot.ok] at C;obtain⟨u,O,rfl,⟨b,off,G,rfl,H,K,L,M⟩,rfl⟩:=C;have B:(Slot.v (Enc.cp b off e) z).ok ρ S w (.pointer (some ⟨b,off,none⟩)):=by simp only[Slot.ok];exact La.2 ⟨rfl,G,H,K,L,M⟩
 refine⟨(b,off),rfl,.cons (.cp B) .nil,fun t s A=>?_⟩;rw[lK] at A;split at A
 ·rename_i D;cases A;exact⟨0,_,D.symm,rfl,B⟩
 ·simp[lk] at A
theorem Om{P:Program}{f:FuncId}{fn:Func}{c:Code}{N:Nat}{α β:Type}{e:Enc α}{z:α}{e':Enc β}{z':β}{items:List (List Slot)}
  (hf:P.funcs[f]? =some fn) (hb:fn.body=some c) (hN:fn.ntmps=N) (hle:Nat.ble 3 N=true)
  (h:∀S w ρ l J Jx b off b' off',Its P S w ρ l J Jx items->J 0 w->Again ρ S w (.v (Enc.cp b off e) z)->Again ρ S w (.v (Enc.cp b' off' e') z')->W (FW P N S w.heap.size w) [c] ⟨[(0,.v (Enc.cst (.func (.yield l) #[] #[]) rfl) ()),(1,.v (Enc.cp b off e) z),(2,.v (Enc.cp b' off' e') z')],[]⟩ (RetI P fn J Jx items.length)):
  IterC P f [.pst e z,.pst e' z'] items:=by
 refine Ol (X:=(Nat×Nat)×(Nat×Nat)) hf hb hN hle (fun x=>[.pointer (some ⟨x.1.1,x.1.2,none⟩),.pointer (some ⟨x.2.1,x.2.2,none⟩)]) (fun x=>[(1,.v (Enc.cp x.1.1 x.1.2 e) z),(2,.v (Enc.cp x.2.1 x.2.2 e') z')]) (fun ρ S w vs E=>?_)
  (fun S w ρ l J Jx x I G F=>h S w ρ l J Jx x.1.1 x.1.2 x.2.1 x.2.2 I G (F.spec 1 _ rfl) (F.spec 2 _ rfl))
 simp only[aV,Slot.ok] at E;obtain⟨u,aa,rfl,⟨b,off,H,rfl,K,L,M,O⟩,u',ab,rfl,⟨b',off',Q,rfl,R,T,U,V⟩,rfl⟩:=E;have C:(Slot.v (Enc.cp b off e) z).ok ρ S w (.pointer (some ⟨b,off,none⟩)):=by simp only[Slot.ok];exact La.2 ⟨rfl,H,K,L,M,O⟩
 have D:(Slot.v (Enc.cp b' off' e') z').ok ρ S w (.pointer (some ⟨b',off',none⟩)):=by simp only[Slot.ok];exact La.2 ⟨rfl,Q,R,T,U,V⟩
 refine⟨((b,off),(b',off')),rfl,.cons (.cp C) (.cons (.cp D) .nil),fun t s A=>?_⟩;rw[lK] at A;split at A
 ·rename_i B;cases A;exact⟨0,_,B.symm,rfl,C⟩
 ·rw[lK] at A;split at A
  ·rename_i B;cases A;exact⟨1,_,B.symm,rfl,D⟩
  ·simp[lk] at A
def chunks{α:Type}(n:Nat)(xs:List α):List (List α):=(List.range ((xs.length+n - 1) / n)).map fun k=>(xs.drop (k*n)).take n
theorem wM{α:Type}{n:Nat}(hn:1<=n)(xs:List α){k:Nat}:k<(chunks n xs).length↔k*n<xs.length:=by
 simp only[chunks,aBp,aEk];rw[Nat.lt_div_iff_mul_lt (by omega)];omega
theorem Lc{α:Type}{n:Nat}(hn:1<=n){xs:List α}{k:Nat}(h:k*n<xs.length):(chunks n xs)[k]? =some ((xs.drop (k*n)).take n):=by
 have:=(wM hn xs).2 h;simp only[chunks,aBp,aEk] at this;simp[chunks,this]
theorem Iz{α:Type}{xs:List α}{n:Int}(hn:1<=n)(hn2:n<=4294967296)(hlen:(xs.length:Int)<=4294967296){k:Nat}(h:(k:Int)*n<xs.length):
  k*n.toNat<xs.length/\sub xs (k*n) xs.length=some (xs.drop (k*n.toNat))/\
  sub xs (k*n) (ar .add .i64 (k*n) (min n ((xs.drop (k*n.toNat)).length:Int)))=some ((xs.drop (k*n.toNat)).take n.toNat)/\
  (ar .add .i64 (k*n) (min n ((xs.drop (k*n.toNat)).length:Int))<=ar .add .i64 (k*n) (min n ((xs.drop (k*n.toNat)).length:Int))/\ar .add .i64 (k*n) (min n ((xs.drop (k*n.toNat)).length:Int))<=xs.length)/\ar .add .i64 (k*n) n=((k+1:Nat):Int)*n:=by
 obtain⟨m,rfl⟩:∃m:Nat,n=m:=⟨n.toNat,by omega⟩
 have u:(0:Int)<=(k:Int)*m:=Int.mul_nonneg (by omega) (by omega);have z:((k:Int)*m)=((k*m:Nat):Int):=by push_cast;rfl
 have C:k*m<xs.length:=by rw[z] at h;exact_mod_cast h
 have A:(xs.drop (k*m)).length=xs.length - k*m:=aA1 ..;have B:∀x:Int,0<=x->x<=4294967296->ar .add .i64 (k*m) x=k*m+x:=by
  intro x K L;unfold ar;refine zZ ?_;unfold Db;have D:IntKind.min .i64= -9223372036854775808:=by decide
  have E:IntKind.max .i64=9223372036854775807:=by decide
  rw[D,E];omega
 simp only[aAf];have F:(0:Int)<=min (m:Int) ((xs.drop (k*m)).length:Int):=by omega
 have G:min (m:Int) ((xs.drop (k*m)).length:Int)<=4294967296:=by omega
 rw[B _ F G,B _ (by omega) hn2];refine⟨C,?_,?_,⟨aDg _,by rw[A];omega⟩,by push_cast;rw[Int.add_mul,Int.one_mul]⟩
 ·unfold sub;rw[aAn ⟨u,by omega,aDg _⟩,z,aAf,aAf,aDd]
 ·unfold sub;rw[aAn ⟨u,by omega,by rw[A];omega⟩];have H:((k:Int)*m).toNat=k*m:=by omega
  have I:((k:Int)*m+min (m:Int) ((xs.drop (k*m)).length:Int)).toNat=k*m+min m (xs.drop (k*m)).length:=by omega
  rw[H,I,List.drop_take];congr 1;rw[Nat.add_sub_cancel_left,<-List.take_take,aDd]
def backs{α:Type}(xs:List α):List (Int×α):=(xs.zipIdx.map fun x=>((x.2:Int),x.1)).reverse
end Go.Sw
namespace Go.Sw
open Go Go.RowKit
section
variable {F:Frm}{σ:AS}{pb:Option Nat}{s:Slot}{d:Option Tmp}{ty:TypeId}{p:String}{af:Array Edge}{gd:Option (Nat×Bool)}{x y z:Operand}
theorem yV{T:TypeId}{zv:Value}{cs:List Value}{l:List Slot}{new:List (Nat×Ent)}(i:Nat)(hz:∀w,(zeroValue T).run F.P w= .ok zv w)(hc:zv.cells=cs.toArray)(hl:ZrN cs l new)(hn:NilN new)(hf:σ.free new=true)(hlab:(dF l).all (fun j=> !Nat.beq j i)=true):
  JO F ⟨d,.alloc T,ty,p,af,gd⟩ σ (.ptr i 0) ((i,.box T l)::new):=by
 intro ρ S a w K;obtain⟨ρ',U,N,K',h3,h4⟩:=Ys hn hf K;refine OpWp.value (w':=w.alloc (.cells cs.toArray T)) (v:= .pointer (some ⟨w.heap.size,0,none⟩)) (by simp[execOp,Instr.alloc,hz,wK,hc]) ?_;obtain⟨ρ2,V,X,k3,O⟩:=Res.box (ρ:=ρ') (S:=S) (w:=w) (T:=T) i (hl ρ' S w N) hlab;have I:∀j,j≠i->ρ2 j=ρ' j:=fun j u=>V j (by rw[bV,aAj (aC9 u)];rfl);have D:∀j A,j≠i->aW new j=some A->ρ2 j= .of (.slice none 0 0):=fun j A u h=>by rw[I j u,N j A h]
 have L:Un S ρ2 ((i,.box T l)::new)=Un S ρ2 [(i,.box T l)]:=by
  funext k;refine propext ⟨fun h=>?_,fun h=>?_⟩
  ·rcases h with h |⟨j,A,C,E⟩
   ·exact .inl h
   ·by_cases u:j=i
    ·subst u;exact .inr ⟨j,.box T l,by simp[aW],E⟩
    ·rw[bV,aAj (aC9 u)] at C;rw[D j A u C] at E;simp[nY,blk] at E
  ·rcases h with h |⟨j,A,C,E⟩
   ·exact .inl h
   ·rw[bV] at C;split at C
    ·rename_i u;subst u;exact .inr ⟨i,.box T l,by simp[aW],E⟩
    ·simp[aW] at C
 refine⟨ρ2,fun j u=>?_,X,?_,?_,?_,?_⟩
 ·rw[bV] at u;split at u
  ·cases u
  ·rename_i z;rw[I j (aC9 z)];exact U j u
 ·rw[L];exact k3
 ·intro j A u;rw[L];rw[bV] at u;split at u
  ·rename_i z;subst z;cases u;exact O.own _ _ (by rw[bV,aAn rfl])
  ·rename_i z;rw[D j A (aC9 z) u];exact hn.spec j A u _ _ _
 ·intro j A b u B;rw[bV] at u;split at u
  ·rename_i z;subst z;cases u;exact O.fresh _ _ b (by rw[bV,aAn rfl]) B
  ·rename_i z;rw[D j A (aC9 z) u] at B;simp[nY,blk] at B
 ·intro j Q A R b u G B M;rw[bV] at u G;split at u
  ·rename_i z;subst z;split at G
   ·rename_i H;exact H
   ·rename_i H;rw[D Q R (aC9 H) G] at M;simp[nY,blk] at M
  ·rename_i z;rw[D j A (aC9 z) u] at B;simp[nY,blk] at B
def Lns{α β:Type}(e:Enc α)(z:α)(off:Nat)(e':Enc β)(z':β)(u:β->α):Prop:=∀S w cs,e.ok z S w cs->∃a c d,cs=a++(c++d)/\a.length=off/\e'.ok z' S w c/\∀z2 c2,e'.ok z2 S w c2->e.ok (u z2) S w (a++(c2++d))
theorem Lns.here{α:Type}{e:Enc α}{z:α}:Lns e z 0 e z (fun y=>y):=fun S w u h=>⟨[],u,[],by simp,rfl,h,fun B C A=>by simpa using A⟩
theorem Lns.snd{α β γ:Type}{a:Enc α}{b:Enc β}{e':Enc γ}{z:α×β}{z':γ}{off:Nat}{u:γ->β}(h:Lns b z.2 off e' z' u):Lns (Enc.pr a b) z (a.n+off) e' z' (fun y=>(z.1,u y)):=by
 rintro S w M ⟨c,d,rfl,D,L⟩;obtain⟨B,G,C,rfl,H,I,K⟩:=h S w d L;exact⟨c++B,G,C,by simp,by rw[sM,a.len D,H],I,fun E A F=>⟨c,B++(A++C),by simp,D,K E A F⟩⟩
theorem Sr{α β:Type}{e:Enc α}{zs:List α}{z:α}{e':Enc β}{z' z2:β}{u:β->α}{T U:TypeId}{i k off:Nat}(hz:zs[k]? =some z)(hx:cK σ.g x=some (.el i k e.n off))(he:aW σ.d i=some (.arr T e zs))(hy:cK σ.g y=some (.v e' z2))(hp:Lns e z off e' z' u)
  (hS:∀w,(sizeOf U).run F.P w= .ok e'.n w):JM F ⟨none,.store U x y,ty,p,af,gd⟩ σ ⟨σ.g,(i,.arr T e (zs.set k (u z2)))::σ.d⟩:=by
 refine pC he rfl fun ρ a w S I=>?_;have K:=bT S I (Op.store U x y).operands;obtain⟨b,aa,h,cs,A,L,h2,H,h4,h5,h6,h7⟩:=NF K (x:=x) (by simp[Op.operands]) hx he;have G:=pY (s:= .v e' z2) rfl (Iu I hy);simp only[Slot.okc] at G;obtain⟨B,c,C,rfl,hl,ab,ac⟩:=pW h4 hz;obtain⟨D,M,E,rfl,ad,N,ae⟩:=hp _ w c ab;have O:h++(B++(D++(M++E)++C)++A)=(h++B++D)++(M++(E++C++A)):=by simp
 rw[O] at H;have Q:=kL (P:=F.P) (w:=w) (U:=U) (off:=h.length+(k*e.n+off)) hS (by have:=e'.len G;simp only[aA3] at this;omega) (fun q V=>e'.cell G q V) H (by simp[hl,ad,aDs]) (e'.len N);have R:(h++B++D)++((a.eval y).cells.toList++(E++C++A))=h++((B++((D++((a.eval y).cells.toList++E))++C))++A):=by simp
 refine⟨b,w.setRow b ((h++B++D)++((a.eval y).cells.toList++(E++C++A))).toArray,.inl (by rw[L];rfl),Upd.setRow w b _,?_,fun X=>?_⟩
 ·exact kM h2 Q
 ·refine .inr ⟨b,aa,h,B++((D++((a.eval y).cells.toList++E))++C),A,by simpa using L,?_,Enc.okL_mono (ac (u z2) _ (ae z2 _ G)) X,by simpa using h5,?_,by simpa using h7⟩
  ·rw[<-R];exact setRow_heap w b _ _ T _ H
  ·have:=e'.len G;have:=e'.len N;simp only[sM] at h6 ⊢;omega
theorem Dg{α:Type}{x:Option α}{r:α}(h:x=some r):(x.bind fun v=>some v)=some r:=by rw[h];rfl
end
end Go.Sw
namespace Go.Sw
open Go
theorem BE{α:Type}(xs:List α):(backs xs).length=xs.length:=by simp[backs]
theorem EP{α:Type}{xs:List α}{k:Nat}(h:k<xs.length):∃x,(backs xs)[k]? =some ((xs.length:Int) - 1 - (k:Nat),x)/\Sw.idx xs ((xs.length:Int) - 1 - (k:Nat))=some x:=by
 have u:xs.length - 1 - k<xs.length:=by omega
 refine⟨xs[xs.length - 1 - k],?_,?_⟩
 ·unfold backs;rw[List.getElem?_reverse (by simpa using h)];simp only[aBp,List.length_zipIdx,aBl,List.getElem?_zipIdx,aAg u,aBu,aC4];congr 2;omega
 ·unfold Sw.idx;have e:((xs.length:Int) - 1 - (k:Nat)).toNat=xs.length - 1 - k:=by omega
  rw[aAn (by omega),e,aAg u]
theorem ER{n k:Nat}(h:(n:Int)<=4294967296)(hk:k<=n):ar .sub .i64 ((n:Int) - 1 - (k:Nat)) 1=(n:Int) - 1 - ((k+1:Nat):Int):=by
 have e:(n:Int) - 1 - (k:Nat) - 1=(n:Int) - 1 - ((k+1:Nat):Int):=by push_cast;omega
 show IntKind.wrap .i64 _=_;rw[e];refine zZ ?_;unfold Db;have u:IntKind.min .i64= -9223372036854775808:=by decide
 have z:IntKind.max .i64=9223372036854775807:=by decide
 rw[u,z];omega
theorem BF{n:Nat}(h:(n:Int)<=4294967296):ar .sub .i64 (n:Int) 1=(n:Int) - 1 - ((0:Nat):Int):=by
 have e:(n:Int) - 1=(n:Int) - 1 - ((0:Nat):Int):=by simp
 show IntKind.wrap .i64 ((n:Int) - 1)=_;refine(zZ ?_).trans e;unfold Db;have u:IntKind.min .i64= -9223372036854775808:=by decide
 have z:IntKind.max .i64=9223372036854775807:=by decide
 rw[u,z];omega
end Go.Sw
namespace Go.Sw
open Go Go.RowKit
section
variable {F:Frm}{σ:AS}{x y:Operand}{d:Option Tmp}{ty:TypeId}{p:String}{af:Array Edge}{gd:Option (Nat×Bool)}
end
end Go.Sw
namespace Go.Sw
open Go
theorem Ae{F:Frm}{σ:AS}{o:Oper}{l:List Slot}{new:List (Nat×Ent)}{α:Type}{e:Enc α}{z:α}(h:JO F o σ (.agg l) new)(hs:Spl l e z)(ha:e.agg=true):JO F o σ (.v e z) new:=by
 intro ρ S a w K;refine(h ρ S a w K).mono ?_;rintro v H ⟨ρ',D,E,A,G⟩;refine⟨ρ',D,E,?_,G⟩;simp only[Slot.ok] at A ⊢;obtain⟨u,B,C⟩:=A;exact⟨u,(hs _ _ _ u).1 C,by rw[B];simp[Enc.pk,ha]⟩
end Go.Sw
namespace Go.Sw
open Go
theorem ES{P:Program}{fn:Func}{a:Act}{w:World}{r0 r1 r2 r3 r4:ResultVar}{v0 v1 v2 v3 v4:Value}(hrs:fn.results= #[r0,r1,r2,r3,r4])(h0:(vN a r0).run P w= .ok v0 w)(h1:(vN a r1).run P w= .ok v1 w)(h2:(vN a r2).run P w= .ok v2 w)(h3:(vN a r3).run P w= .ok v3 w)(h4:(vN a r4).run P w= .ok v4 w):(results fn a.tmps).run P w= .ok (.tuple #[v0,v1,v2,v3,v4]) w:=by
 rw[wI,hrs];simp only[aDw,aCm,aEp,Sem.run_bind,Sem.run_map,h0,h1,h2,h3,h4,Result.andThen_ok,Sem.run_pure];simp
section
variable {F F':Frm}{σ:AS}{fn:Func}{r0 r1 r2 r3 r4:ResultVar}{s0 s1 s2 s3 s4:Slot}{new:List (Nat×Ent)}
theorem Qt(hF:Fol F F')(hR:∀k,¬F.R k)(hrs:fn.results= #[r0,r1,r2,r3,r4])(h0:RV F σ r0 s0)(h1:RV F σ r1 s1)(h2:RV F σ r2 s2)(h3:RV F σ r3 s3)(h4:RV F σ r4 s4)(hn:SubE new σ.d)(hcl:kJ (.tup [s0,s1,s2,s3,s4]) new=true):XQ F' σ (Nk F fn (.tup [s0,s1,s2,s3,s4]) new) .ret:=
 xM hF fun ρ a w h u=>by
  obtain⟨z,E,b0⟩:=h0 ρ a w h u;obtain⟨A,G,H⟩:=h1 ρ a w h u;obtain⟨B,I,K⟩:=h2 ρ a w h u;obtain⟨C,L,M⟩:=h3 ρ a w h u;obtain⟨D,N,O⟩:=h4 ρ a w h u;refine⟨_,ES hrs E G I L N,_,rfl,Res.of_core hR h ?_ hn hcl⟩;simp only[Slot.ok];exact⟨[z,A,B,C,D],rfl,by simp only[aV];exact⟨z,_,rfl,b0,A,_,rfl,H,B,_,rfl,K,C,_,rfl,M,D,_,rfl,O,rfl⟩⟩
end
end Go.Sw
namespace Go.Sw
open Go Go.RowKit
def Jm(g:List (Nat×Slot))(o:Oper):List Nat:=o.op.operands.toList.flatMap fun x=>match cK g x with | some s=>s.lab | none=>[]
structure Loc (ops:Array Oper) (o:Oper) (σ0 σ:AS):Prop where
 g:∀u∈Of ops o,lk σ.g u=lk σ0.g u
 d:∀l∈Jm σ0.g o,aW σ.d l=aW σ0.d l
section
variable {F:Frm}{ops:Array Oper}{o:Oper}{σ0 σ:AS}
theorem Loc.ev(h:Loc ops o σ0 σ){x:Operand}(hx:x∈o.op.operands):cK σ.g x=cK σ0.g x:=by
 cases x with
 |tmp u=>exact h.g u (by simp only[Of,aA0,aD5];exact .inl ⟨_,by simpa using hx,by simp[rd]⟩)
 |const u=>rfl
 |global g=>rfl
 |func f=>rfl
theorem Loc.ent(h:Loc ops o σ0 σ){x:Operand}{s:Slot}{l:Nat}(hx:x∈o.op.operands)(hs:cK σ0.g x=some s)(hl:l∈s.lab):aW σ.d l=aW σ0.d l:=
 h.d l (aD5.2 ⟨x,by simpa using hx,by rw[hs];exact hl⟩)
theorem NI{s:Slot}{new:List (Nat×Ent)}(h:JO F o σ0 s new)(hl:Loc ops o σ0 σ):JO F o σ s new:=fun ρ S a w K=>
 h ρ S a w ⟨K.low,fun x u s z=>K.slot x u s (by rw[hl.ev u];exact z),fun x u s z i A B C=>K.ent x u s (by rw[hl.ev u];exact z) i A B (by rw[hl.ent u z A];exact C)⟩
theorem NJ{b:Bool}(h:GK ops σ0.g o b)(hl:Loc ops o σ0 σ):GK ops σ.g o b:=by
 unfold GK at h ⊢;split
 ·rename_i z;rw[z] at h;exact h
 ·rename_i j F z;rw[z] at h;have B:∀t,(ops[j]?).bind (·.dst)=some t->lk σ.g t=lk σ0.g t:=fun t C=>hl.g t (by simp[Of,z,C]);rcases h with⟨t,x,u,A,D⟩|⟨E,t,u,A⟩
  ·exact .inl ⟨t,x,u,by rw[B t u];exact A,D⟩
  ·exact .inr ⟨E,t,u,by rw[B t u];exact A⟩
end
structure Itm where
 s:Slot
 nw:List (Nat×Ent)
 fr:Bool
 rl:List Nat
def Wi(ops:Array Oper)(ms:List Nat):Bool:=Nat.beq ms.length ops.size && (List.range ops.size).all fun i=>match ops[i]? with
 |none=>false
 |some o=>Nat.beq (ms.getD i 0) ((Ku o).foldl (fun m j=>m ||| 1 <<< j ||| ms.getD j 0) 0)
inductive Anc (ops:Array Oper):Nat->Nat->Prop
 |one {i j:Nat} {o:Oper}:ops[i]? =some o->j∈Ku o->Anc ops i j
 |up {i k j:Nat} {o:Oper}:ops[i]? =some o->k∈Ku o->Anc ops k j->Anc ops i j
theorem Anc.down{ops:Array Oper}{L:Nat->Bool}(h:EE ops L):∀{i j:Nat},Anc ops i j->L i=true->L j=true:=by
 intro i j A
 induction A with
 |one z B=>exact fun u=>h _ _ u z _ B
 |up z C _ D=>exact fun u=>D (h _ _ u z _ C)
theorem Gd{ms:List Nat}{b:Nat}:∀{l:List Nat} {m:Nat},(l.foldl (fun m j=>m ||| 1 <<< j ||| ms.getD j 0) m).testBit b=true->m.testBit b=true\/∃j∈l,j=b\/(ms.getD j 0).testBit b=true
 | [],m,h=> .inl h
 |j::l,m,h=>by
  rw[aA8] at h;rcases Gd (l:=l) h with h |⟨q,u,h⟩
  ·rw[Nat.testBit_or,Nat.testBit_or,aCi,aCi] at h;rcases h with (h | h) | h
   ·exact .inl h
   ·refine .inr ⟨j,aA6,.inl ?_⟩;rw[Nat.one_shiftLeft,Nat.testBit_two_pow] at h;simpa using h
   ·exact .inr ⟨j,aA6,.inr h⟩
  ·exact .inr ⟨q,aAz _ u,h⟩
theorem Ge{ops:Array Oper}(hb:Ce ops=true){i j:Nat}{o:Oper}(ho:ops[i]? =some o)(hj:j∈Ku o):j<i:=by
 have u:i<ops.size:=by
  rcases aBc i ops.size with h | h
  ·exact h
  ·simp[aBv h] at ho
 have:=aAh.1 hb i (aBw.2 u);simp only[ho] at this;simpa using aAh.1 this j hj
theorem JL{ops:Array Oper}{ms:List Nat}(hb:Ce ops=true)(hm:Wi ops ms=true):∀i j,(ms.getD i 0).testBit j=true->Anc ops i j:=by
 simp only[Wi,aAr,aAh] at hm;obtain⟨A,hm⟩:=hm;have A:=aAb A;intro i
 induction i using Nat.strongRecOn with
 |_ i D=>
  intro j h;rcases aBc i ops.size with C | E
  ·have B:=hm i (aBw.2 C);have u:ops[i]? =some ops[i]:=aBs C;simp only[u] at B;rw[aAb B] at h;rcases Gd h with h |⟨q,z,rfl | h⟩
   ·simp at h
   ·exact .one u z
   ·exact .up u z (D q (Ge hb u z) j h)
  ·rw[aAl,aAv (by omega)] at h;simp at h
theorem Anc.lt{ops:Array Oper}(hb:Ce ops=true):∀{i j:Nat},Anc ops i j->j<i:=by
 intro i j h
 induction h with
 |one u z=>exact Ge hb u z
 |up u A _ B=>exact Nat.lt_trans B (Ge hb u A)
def Gf(ops:Array Oper)(n:Nat)(ms:List Nat):Bool:=
 (List.range ops.size).all fun i=>
  match ops[i]? with
  |none=>false
  |some o=>
   if i<n then
    (match o.dst with
     |none=>true
     |some t=>(List.range n).all fun j=>
       match ops[j]? with
       |none=>false
       |some h=>(j==i || h.dst != some t) && (!(Of ops h).contains t || (ms.getD j 0).testBit i || (ms.getD i 0).testBit j))
   else (List.range i).all fun j=>(ms.getD i 0).testBit j
def Af(dst:Nat->Option Tmp)(sl:Nat->Slot)(g:List (Nat×Slot)):Nat->(Nat->Bool)->List (Nat×Slot)
 | 0,_=>g
 |m+1,L=>bif L m then hX (dst m) (sl m) (Af dst sl g m L) else Af dst sl g m L
section
variable {dst:Nat->Option Tmp}{sl:Nat->Slot}{g:List (Nat×Slot)}{nw:Nat->List (Nat×Ent)}{d:List (Nat×Ent)}
theorem Gg{t:Option Tmp}{s:Slot}{g:List (Nat×Slot)}{u:Nat}:lk (hX t s g) u=if t=some u then some s else lk g u:=by
 cases t with
 |none=>simp[hX]
 |some t=>simp only[hX,lK,aAk]
theorem Dh{u:Nat}{L L':Nat->Bool}:∀{m:Nat},(∀i,i<m->dst i=some u->L i=L' i)->lk (Af dst sl g m L) u=lk (Af dst sl g m L') u
 | 0,_=>rfl
 |m+1,h=>by
  have A:=Dh (m:=m) (fun i B=>h i (by omega));simp only[Af];by_cases z:dst m=some u
  ·rw[h m (by omega) z];cases L' m<;>simp[Gg,z,A]
  ·cases L m<;>cases L' m<;>simp[Gg,z,A]
theorem EU{u j:Nat}{L:Nat->Bool}(hj:dst j=some u)(hL:L j=true):∀{m:Nat},j<m->(∀i,i<m->i≠j->dst i≠some u)->lk (Af dst sl g m L) u=some (sl j)
 | 0,h,_=>by omega
 |m+1,h,A=>by
  simp only[Af];by_cases z:j=m
  ·subst z;rw[hL];simp[Gg,hj]
  ·have B:=EU (m:=m) hj hL (by omega) (fun i C=>A i (by omega));have:=A m (by omega) (aC9 z);cases L m<;>simp[Gg,this,B]
theorem Qu{y:Nat×Slot}{L:Nat->Bool}:∀{m:Nat},y∈Af dst sl g m L->y∈g\/∃i,i<m/\L i=true/\y.2=sl i
 | 0,h=> .inl h
 |m+1,h=>by
  simp only[Af] at h;cases hL:L m with
  |false=>
   rw[hL] at h;rcases Qu (m:=m) h with h |⟨i,z,u⟩
   ·exact .inl h
   ·exact .inr ⟨i,by omega,u⟩
  |true=>
   rw[hL] at h;simp only[aAe] at h;have:y∈Af dst sl g m L\/y.2=sl m:=by
    cases hd:dst m with
    |none=>rw[hd] at h;exact .inl h
    |some t=>
     rw[hd] at h;rcases aAo.1 h with rfl | h
     ·exact .inr rfl
     ·exact .inl h
   rcases this with h | h
   ·rcases Qu (m:=m) h with h |⟨i,z,u⟩
    ·exact .inl h
    ·exact .inr ⟨i,by omega,u⟩
   ·exact .inr ⟨m,by omega,hL,h⟩
end
theorem St.congr{F:Frm}{σ σ':AS}{a:Act}{w:World}(hg:∀u,lk σ'.g u=lk σ.g u)(hd:∀l,aW σ'.d l=aW σ.d l)(h:St F σ a w):St F σ' a w:=by
 obtain⟨⟨ρ,B,C⟩,D,E⟩:=h;have z:∀l en,aW σ.d l=some en↔aW σ'.d l=some en:=fun l en=>by rw[hd]
 exact⟨⟨ρ,B.congr z,fun t s A=>by rw[<-Un.congr z];exact C t s (by rw[<-hg];exact A)⟩,D,E⟩
section
variable {F:Frm}{ops:Array Oper}
theorem Ew{dst:Nat->Option Tmp}{sl:Nat->Slot}{g:List (Nat×Slot)}{L:Nat->Bool}{m:Nat}:∀{n:Nat},m<=n->(∀i,m<=i->i<n->L i=false)->Af dst sl g n L=Af dst sl g m L
 | 0,h,_=>by
  have:m=0:=by omega
  subst this;rfl
 |n+1,h,z=>by
  rcases aBc n m with u | u
  ·have:m=n+1:=by omega
   subst this;rfl
  ·simp only[Af,z n u (by omega),pF];exact Ew u fun i A B=>z i A (by omega)
theorem Hs{dst:Nat->Option Tmp}{sl:Nat->Slot}{g:List (Nat×Slot)}{L:Nat->Bool}:∀{m:Nat},Af dst sl g (m+1) L=Af (fun i=>dst (i+1)) (fun i=>sl (i+1)) (bif L 0 then hX (dst 0) (sl 0) g else g) m (fun i=>L (i+1))
 | 0=>rfl
 |m+1=>by rw[Af,Hs (m:=m)];rfl
end
end Go.Sw
namespace Go.Sw
open Go Go.RowKit
section
variable {F:Frm}{ops:Array Oper}{os:List Oper}{σ σ':AS}{its:List Itm}{s s0:Slot}{d:Option Tmp}{pb:Option Nat}{ty:TypeId}{p:String}{af:Array Edge}{gd:Option (Nat×Bool)}{x y:Operand}
end
end Go.Sw
namespace Go.Sw
open Go Go.RowKit
def Enc.raw:Enc Value where
 n:=1
 agg:=false
 ok x _ _ cs:=cs=[x]/\x.oneCell'=true
 len h:=by rw[h.1];rfl
 one _:=rfl
 cell h c hc:=by rw[h.1] at hc;simp at hc;subst hc;exact h.2
 mono h _:=h
def arrOk{α:Type}(T:TypeId)(e:Enc α)(xs:List α)(S:Nat->Prop)(w:World)(v:Value):Prop:=
 (xs=[]/\v= .slice none 0 0)\/∃b cap pre cs post,v= .slice (some ⟨b,pre.length,none⟩) xs.length cap/\
   w.heap[b]? =some (.cells (pre++(cs++post)).toArray T (0,0))/\e.okL xs S w cs/\xs.length<=cap/\cap*e.n<=cs.length+post.length/\xs.length<=140737488355328
theorem arrOk.mono{α:Type}{T:TypeId}{e:Enc α}{xs:List α}{S S':Nat->Prop}{w w':World}{v:Value}(h:arrOk T e xs S w v)(k:Ext S S' w w')(hb:∀b,blk v=some b->w'.heap[b]? =w.heap[b]?):arrOk T e xs S' w' v:=by
 rcases h with h |⟨b,z,A,B,C,u,D,E,F⟩
 ·exact .inl h
 ·exact .inr ⟨b,z,A,B,C,u,by rw[hb b (by rw[u];rfl)];exact D,Enc.okL_mono E k,F⟩
theorem arrOk.slice{α:Type}{T:TypeId}{e:Enc α}{xs:List α}{S:Nat->Prop}{w:World}{v:Value}(h:arrOk T e xs S w v):∃a c,v= .slice a xs.length c:=by
 rcases h with⟨rfl,rfl⟩|⟨b,z,A,B,C,u,_⟩
 ·exact⟨none,0,rfl⟩
 ·exact⟨_,_,u⟩
end Go.Sw
namespace Go.Sw
open Go Go.RowKit
theorem Core.regroup{F:Frm}{d d':List (Nat×Ent)}{ρ ρ':Nat->LV}{w:World}(hc:Core F d ρ w)
  (hU:∀l en b,aW d' l=some en->pV (ρ' l) b->∃l0 en0,aW d l0=some en0/\pV (ρ l0) b)
  (hin:∀i j en en' b,aW d' i=some en->aW d' j=some en'->pV (ρ' i) b->pV (ρ' j) b->i=j)
  (hown:Ext (Un F.S0 ρ d) (Un F.S0 ρ' d') w w->∀l en,aW d' l=some en->en.ok ρ' (Un F.S0 ρ' d') w (ρ' l)):
  Core F d' ρ' w/\Ext (Un F.S0 ρ d) (Un F.S0 ρ' d') w w:=by
 have B:Ext (Un F.S0 ρ d) (Un F.S0 ρ' d') w w:=⟨aAi _,fun k _ C=>⟨rfl,fun h=>C (by
  rcases h with h |⟨l,en,D,E⟩
  ·exact .inl h
  ·obtain⟨l0,en0,u,z⟩:=hU l en k D E
   exact .inr ⟨l0,en0,u,z⟩)⟩⟩
 refine⟨⟨hc.low,hc.size,hc.frame,hc.os,hc.tape,hc.output,hown B,fun i en b h A=>?_,hin,fun i en b h A=>?_⟩,B⟩
 ·obtain⟨l0,en0,u,z⟩:=hU i en b h A;exact hc.fresh l0 en0 b u z
 ·obtain⟨l0,en0,u,z⟩:=hU i en b h A;exact hc.apart l0 en0 b u z
structure Rws {α:Type} (T2:TypeId) (e:Enc α) (xss:List (List α)) (o:Option Nat) (S:Nat->Prop) (w:World) (x:Nat->Prop) (b0:Option Nat) (hs:List Value):Prop where
 len:hs.length=xss.length
 ok:∀j xs h,o≠some j->xss[j]? =some xs->hs[j]? =some h->arrOk T2 e xs S w h
 own:∀j h k,o≠some j->hs[j]? =some h->blk h=some k->x k/\b0≠some k
 inj:∀j j' h h' k,o≠some j->o≠some j'->hs[j]? =some h->hs[j']? =some h'->blk h=some k->blk h'=some k->j=j'
section
variable {F:Frm}{σ:AS}{pb:Option Nat}{s:Slot}{d:Option Tmp}{ty:TypeId}{p:String}{af:Array Edge}{gd:Option (Nat×Bool)}{x y:Operand}{α:Type}{e:Enc α}{T T2 U:TypeId}{xss:List (List α)}{i j:Nat}
theorem Gh{dd:List (Nat×Ent)}{l k:Nat}{en en':Ent}(h:aW ((k,en')::dd) l=some en):(l=k/\en=en')\/(l≠k/\aW dd l=some en):=by
 rw[bV] at h;split at h
 ·rename_i u;cases h;exact .inl ⟨u.symm,rfl⟩
 ·rename_i u;exact .inr ⟨fun e=>u e.symm,h⟩
theorem Ld{v:Value}{x:Nat->Prop}{b:Nat}:pV ⟨v,x⟩ b↔blk v=some b\/x b:=Iff.rfl
end
end Go.Sw
namespace Go.Sw
open Go Go.RowKit
theorem Core.step{F:Frm}{d d':List (Nat×Ent)}{ρ ρ':Nat->LV}{w w':World}(hc:Core F d ρ w){c:Option Nat}(hch:Chg c w w')(hco:∀b,c=some b->∃l en,aW d l=some en/\pV (ρ l) b)
  (hU:∀l en b,aW d' l=some en->pV (ρ' l) b->(w.heap.size<=b/\b<w'.heap.size)\/∃l0 en0,aW d l0=some en0/\pV (ρ l0) b)
  (hin:∀i j en en' b,aW d' i=some en->aW d' j=some en'->pV (ρ' i) b->pV (ρ' j) b->i=j)
  (hown:Ext (Un F.S0 ρ d) (Un F.S0 ρ' d') w w'->∀l en,aW d' l=some en->en.ok ρ' (Un F.S0 ρ' d') w' (ρ' l)):
  Core F d' ρ' w'/\Ext (Un F.S0 ρ d) (Un F.S0 ρ' d') w w':=by
 have E:Ext (Un F.S0 ρ d) (Un F.S0 ρ' d') w w':=⟨hch.size,fun k C G=>⟨hch.other k C (fun e=>G (by obtain⟨l,en,A,B⟩:=hco k e.symm;exact .inr ⟨l,en,A,B⟩)),fun h=>G (by
  rcases h with h |⟨l,en,A,B⟩
  ·exact .inl h
  ·rcases hU l en k A B with h |⟨l0,en0,u,z⟩
   ·omega
   ·exact .inr ⟨l0,en0,u,z⟩)⟩⟩
 refine⟨⟨hc.low,aBq hc.size hch.size,fun k C H=>?_,hch.os.trans hc.os,hch.tape.trans hc.tape,hch.output.trans hc.output,hown E,fun i en b h D=>?_,hin,fun i en b h D=>?_⟩,E⟩
 ·rw[hch.other k (aAy C hc.size) (fun e=>?_)]
  ·exact hc.frame k C H
  ·obtain⟨l,en,A,B⟩:=hco k e.symm;rcases (hc.fresh l en k A B).1 with h | h
   ·omega
   ·exact H h
 ·rcases hU i en b h D with u |⟨l0,en0,u,z⟩
  ·exact⟨.inl (aBq hc.size u.1),u.2⟩
  ·exact⟨(hc.fresh l0 en0 b u z).1,aAy (hc.fresh l0 en0 b u z).2 hch.size⟩
 ·rcases hU i en b h D with u |⟨l0,en0,u,z⟩
  ·intro I;have:=hc.low b I;have:=hc.size;omega
  ·exact hc.apart l0 en0 b u z
section
variable {F:Frm}{σ:AS}{pb:Option Nat}{s:Slot}{d:Option Tmp}{ty:TypeId}{p:String}{af:Array Edge}{gd:Option (Nat×Bool)}{x y z:Operand}{α:Type}{e:Enc α}{T T2 U:TypeId}{xss:List (List α)}{i j m:Nat}
theorem Yv{xs ys:List α}{lo hi:Int}{S:Nat->Prop}{w:World}{v:Value}{a:Option Addr}{cap:Nat}{ρ:Nat->LV}(hs:sub xs lo hi=some ys)(h:arrOk T e xs S w v)(hv:v= .slice a xs.length cap)(hρ:(ρ i).v=v):
  (Slot.sub i (lo.toNat*e.n) (hi.toNat - lo.toNat)).ok ρ S w (.slice (if cap=lo.toNat then a else a.map (·.add (lo.toNat*e.n))) (hi.toNat - lo.toNat) (cap - lo.toNat)):=by
 obtain⟨E,F,G,_⟩:=gG hs;have D:xs.length<=cap:=by
  rcases h with⟨rfl,rfl⟩|⟨b,z,A,B,C,rfl,_,_,H,_⟩
  ·simp
  ·simp only[Value.slice.injEq] at hv;omega
 simp only[Slot.ok];rw[hρ,hv];refine⟨⟨_,_,_,rfl⟩,cap - lo.toNat,if cap=lo.toNat then 0 else lo.toNat*e.n,by omega,?_,?_⟩
 ·split
  ·right;omega
  ·exact .inl rfl
 ·split
  ·cases a with
   |none=>rfl
   |some u=>
    have:u.spot=none:=by
     rcases h with⟨rfl,rfl⟩|⟨b,z,A,B,C,rfl,_⟩
     ·cases hv
     ·simp only[Value.slice.injEq,aAk] at hv;rw[<-hv.1]
    obtain⟨b,o,q⟩:=u;simp only at this;subst this;rfl
  ·cases a with
   |none=>rfl
   |some u=>
    have:u.spot=none:=by
     rcases h with⟨rfl,rfl⟩|⟨b,z,A,B,C,rfl,_⟩
     ·cases hv
     ·simp only[Value.slice.injEq,aAk] at hv;rw[<-hv.1]
    obtain⟨b,o,q⟩:=u;simp only at this;subst this;simp[Se,Addr.add_lit]
theorem Ss{xs:List α}{xs':Array Operand}{ρ:Nat->LV}{S a w}(K:Know σ xs' ρ S a w)(hm:x∈xs')(hx:cK σ.g x=some (.ref i))(he:aW σ.d i=some (.arr T e xs)):
  ∃ad cap,a.eval x= .slice ad xs.length cap/\xs.length<=cap/\(ρ i).v= .slice ad xs.length cap/\arrOk T e xs S w (ρ i).v:=by
 obtain⟨A,h,_⟩:=xO K hm hx he;have h:arrOk T e xs S w (ρ i).v:=h;obtain⟨ad,cap,u⟩:=h.slice;refine⟨ad,cap,by rw[A,u],?_,u,h⟩;rcases h with⟨rfl,z⟩|⟨b,B,C,D,E,z,_,_,F,_⟩
 ·simp
 ·rw[u] at z;simp only[Value.slice.injEq] at z;omega
theorem JN{xs ys:List α}{hi:Int}{k':IntKind}{E:TypeId}(hs:sub xs 0 hi=some ys)(hx:cK σ.g x=some (.ref i))(he:aW σ.d i=some (.arr T e xs))(hz:cK σ.g z=some (.v (Enc.int k') hi))
  (hU:∀w,(underlying U).run F.P w= .ok (.slice E) w) (hE:∀w,(sizeOf E).run F.P w= .ok e.n w):JO F ⟨d,.slice U x none (some z) none,ty,p,af,gd⟩ σ (.sub i ((0:Int).toNat*e.n) (hi.toNat - (0:Int).toNat)) []:=by
 intro ρ S a w K;obtain⟨D,u,A,G,B,C⟩:=Ss K (x:=x) (by simp[Op.operands]) hx he;have h:=(fB K (x:=z) (by simp[Op.operands]) hz).1;obtain⟨H,s1,I,_⟩:=gG hs;refine OpWp.value (w':=w) ?_ (Res.same (Yv hs C B rfl));simp[execOp,Instr.sliceAt,Instr.slice,A,h,hU,hE,Gb s1 (show hi<=(u:Int) by omega)]
theorem Ka{xs ys:List α}{lo:Int}{k:IntKind}{E:TypeId}(hs:sub xs lo (xs.length:Int)=some ys)(hx:cK σ.g x=some (.ref i))(he:aW σ.d i=some (.arr T e xs))(hy:cK σ.g y=some (.v (Enc.int k) lo))
  (hU:∀w,(underlying U).run F.P w= .ok (.slice E) w) (hE:∀w,(sizeOf E).run F.P w= .ok e.n w):JO F ⟨d,.slice U x (some y) none none,ty,p,af,gd⟩ σ (.sub i (lo.toNat*e.n) ((xs.length:Int).toNat - lo.toNat)) []:=by
 intro ρ S a w K;obtain⟨C,D,u,G,z,A⟩:=Ss K (x:=x) (by simp[Op.operands]) hx he;have h:=(fB K (x:=y) (by simp[Op.operands]) hy).1;obtain⟨B,s1,H,_⟩:=gG hs;refine OpWp.value (w':=w) ?_ (Res.same (Yv hs A z rfl));simp[execOp,Instr.sliceAt,Instr.slice,u,h,hU,hE,Cf B s1]
end
end Go.Sw
namespace Go.Sw
open Go Go.RowKit
section
variable {F F':Frm}{σ:AS}{pb:Option Nat}{s:Slot}{d:Option Tmp}{ty:TypeId}{p:String}{af:Array Edge}{gd:Option (Nat×Bool)}{x y z:Operand}
theorem EV{P:Program}{w:World}{U:TypeId}{a c e:List Value}{n:Nat}{ag:Bool}(hA:∀w,(isAgg U).run P w= .ok ag w)(hS:∀w,(sizeOf U).run P w= .ok n w)(hl:c.length=n)(h1:ag=false->n=1):
  (part U (a++(c++e)).toArray a.length).run P w= .ok (if ag then .agg c.toArray else c.headD undef) w:=by
 unfold part;simp only[Sem.run_bind,hA,Result.andThen_ok];cases ag with
 |true=>
  simp only[aBb,Sem.run_bind,hS,Result.andThen_ok,Sem.run_pure];have:(a++(c++e)).toArray.extract a.length (a.length+n)=c.toArray:=by
   subst hl;rw[List.extract_toArray];congr 1;simp[List.extract]
  rw[this]
 |false=>
  have h:=h1 rfl;rw[h] at hl;obtain⟨v,rfl⟩:=aCf.1 hl;simp
theorem Di{fn:Func}{dout:List (Nat×Ent)}(hF:Fol F F')(hrs:fn.results= #[])(hn:SubE dout σ.d):XQ F' σ (yU F fn (.tup []) dout) .normal:=
 fun a w h=>EL hF hrs hn a w h
theorem Z.cst{u:Value}(h:u.oneCell'=true):∀S w,(Enc.cst u h).ok () S w [u]:=fun _ _=>rfl
end
end Go.Sw
namespace Go.Sw
open Go Go.RowKit
def Gi{α:Type}(e:Enc α):Enc (List α) where
 n:=1
 agg:=false
 ok xs S w cs:=(Enc.sl e).ok xs S w cs/\∀a l c,cs=[.slice a l c]->l=c
 len h:=(Enc.sl e).len h.1
 one _:=rfl
 cell h:=(Enc.sl e).cell h.1
 mono h k:=⟨(Enc.sl e).mono h.1 k,h.2⟩
theorem JP{α:Type}{e:Enc α}{xs:List α}{S w u}(h:(Gi e).val xs S w u):(Enc.sl e).val xs S w u/\∀a l c,u= .slice a l c->l=c:=by
 obtain⟨F,⟨C,G⟩,rfl⟩:=h;refine⟨⟨F,C,rfl⟩,?_⟩;obtain⟨a,H,D,_⟩:=C;intro z A c2 B;rw[D] at B;have E:(Value.slice a xs.length H)= .slice z A c2:=B;exact G z A c2 (by rw[D,E])
section
variable {F:Frm}{σ:AS}{d:Option Tmp}{ty:TypeId}{p:String}{af:Array Edge}{gd:Option (Nat×Bool)}{x y:Operand}
theorem Yw{α:Type}{e:Enc α}{U E:TypeId}{len:Nat}{z:Value}{ps:List (Nat×Operand)}{zs:List α}(hU:∀w,(underlying U).run F.P w= .ok (.slice E) w)(hS:∀w,(sizeOf E).run F.P w= .ok e.n w)(hz:∀w,(zeroValue E).run F.P w= .ok z w)
  (hle:Nat.ble (len*e.n) 16777216=true) (hl:ps.length=len) (hl':zs.length=len) (hb:Nat.ble len 16777216=true) (he:Elems σ e 0 ps zs):JO F ⟨d,.buildSlice U len ps.toArray,ty,p,af,gd⟩ σ (.v (Gi e) zs) []:=by
 intro ρ S a w K;obtain⟨u,M,N⟩:=Qk (d:=d) (ty:=ty) (p:=p) (af:=af) (gd:=gd) hU hS hz hle hl he K;have A:=kP w (.cells u.toArray E);have C:Ext S (Un S ρ []) w (w.alloc (.cells u.toArray E)):=qL A fun k _ h=>by
  rcases h with h |⟨i,R,h,_⟩
  ·exact h
  ·simp[aW] at h
 refine OpWp.value N ⟨ρ,fun _ _=>rfl,A,?_,⟨fun _ _ h=>by simp[aW] at h,fun _ _ _ h=>by simp[aW] at h,fun _ _ _ _ _ h=>by simp[aW] at h⟩⟩;simp only[Slot.ok];have hb:=aAd hb;have D:(Enc.sl e).val zs (Un S ρ []) (w.alloc (.cells u.toArray E)) (.slice (some ⟨w.heap.size,0,none⟩) len len):=by
  refine rJ.2 ⟨_,len,by rw[hl'],⟨by omega,by omega⟩,.inr ⟨w.heap.size,0,u,rfl,by simp,?_,Ix w u E,Enc.okL_mono M C⟩⟩;rintro (h |⟨i,R,h,_⟩)
  ·have:=K.low _ h;omega
  ·simp[aW] at h
 obtain⟨O,Q,B⟩:=D;refine⟨O,⟨Q,fun H I c2 L=>?_⟩,B⟩;subst L;have G:(Value.slice (some ⟨w.heap.size,0,none⟩) len len)= .slice H I c2:=B;injection G with _ e1 e2
 omega
theorem Kb{α:Type}{e:Enc α}{xs ys zs:List α}{T U:TypeId}{ti:TypeInfo}{zv:Value}(ha:app xs ys=some zs)(hne:xs≠ [])(hx:cK σ.g x=some (.v (Gi e) xs))(hy:Src σ y e ys)
  (hU:∀w,(underlying U).run F.P w= .ok (.slice T) w) (hI:∀w,(typeInfo T).run F.P w= .ok ti w) (hS:∀w,(sizeOf T).run F.P w= .ok e.n w) (hz:ti.zero=some zv) (hzs:zv.cells.size=e.n) (hby:Nat.ble ti.bytes 4096=true):
  JO F ⟨d,.call ⟨.builtin .append,#[x,y],#[U,U]⟩,ty,p,af,gd⟩ σ (.v (Enc.sl e) zs) []:=by
 obtain⟨ah,rfl⟩:=So ha;have hby:=aAd hby;intro ρ S a w K;have G:ti.size=e.n:=Jw hI hS;have H:=K.slot x (by simp[Op.operands,Call.operands]) _ hx;simp only[Slot.ok] at H;obtain⟨D,ai⟩:=JP H;obtain⟨a1,an,E,⟨ao,ap⟩,h2⟩:=rJ.1 D;have X:=ai _ _ _ E;subst X;obtain⟨g,Q,z,rfl,aq,au,aj,R⟩:=h2.resolve_left hne;have aa:=cA R;have I:∀q,q∈#[y]->q∈(Op.call ⟨.builtin .append,#[x,y],#[U,U]⟩).operands:=by
  intro q u;have ab:q=y:=by simpa using u
  subst ab;simp[Op.operands,Call.operands]
 obtain⟨av,ad,c,h4,h5⟩:=hy ρ S a w ⟨K.low,fun q u s h=>K.slot q (I q u) s h,fun q u s h=>K.ent q (I q u) s h⟩;have L:∀v w',(Builtin.append_ #[U,U] ty #[.slice (some ⟨g,Q,none⟩) xs.length xs.length,.slice ad ys.length c]).run F.P w= .ok v w'->(execOp a.eval ⟨d,.call ⟨.builtin .append,#[x,y],#[U,U]⟩,ty,p,af,gd⟩).run F.P w= .ok (.value v) w':=by
  intro v w' h;simp[execOp,resolve,invoke,builtin,E,h4,h]
 have M:∀{w':World},NewOk ρ (Un S ρ []) w w' []:=⟨fun i O h=>by simp[aW] at h,fun i O b h=>by simp[aW] at h,fun i j O am b h=>by simp[aW] at h⟩
 by_cases C:ys=[]
 ·subst C;refine OpWp.value (L _ w (sJ hU hS (aAi _))) ⟨ρ,fun _ _=>rfl,Below.refl _ _,?_,M⟩;simp only[Slot.ok,aBa,Un.none];rw[E] at D;exact D
 ·obtain⟨b,ak,A,rfl,hm,V⟩:=h5.resolve_left C;have al:0<ys.length:=aBr.2 C;have ac:=cA V;have ae:=grownCap_ge w (xs.length+ys.length) xs.length T
  have hr:=run_append_grow (P:=F.P) w U ty T ti zv (qA hU) (sY hI) hz ⟨g,Q,none⟩ xs.length xs.length z (by rw[G];exact aa) aj.cell ⟨b,ak,none⟩ ys.length c A (by rw[G];exact ac) hm.cell (by omega) (by omega) (growslice_fits (by omega) (by
   have:(xs.length+ys.length)*ti.bytes<=4294967296*4096:=aCt ah hby
   omega))
  obtain⟨w',B⟩:∃w',w'=w.drew.alloc (.cells (z.toArray++A.toArray++Builtin.zeroCells zv.cells (grownCap w (xs.length+ys.length) xs.length T - (xs.length+ys.length))) T (0,0)):=⟨_,rfl⟩
  have N:Below w.heap.size w w':=by rw[B];exact(Below.refl _ w).drew.alloc (aAi _) _
  refine OpWp.value (L _ w' (by rw[B];exact hr)) ⟨ρ,fun _ _=>rfl,N,?_,M⟩;simp only[Slot.ok];have hE:Ext S (Un S ρ []) w w':=by rw[Un.none];exact qL N fun _ _ h=>h
  refine rJ.2 ⟨_,_,by rw[sM],⟨by rw[sM];exact ae,by rw[sM];omega⟩,.inr ⟨w.heap.size,0,z++A,rfl,?_,?_,?_,Enc.okL_mono (fU R V) hE⟩⟩
  ·rw[B,World.size_alloc];exact Nat.lt_succ_self _
  ·rw[Un.none];intro h;have:=K.low _ h;omega
  ·have h6:w'.heap[w.heap.size]? =some (.cells ([]++((z++A)++(Builtin.zeroCells zv.cells (grownCap w (xs.length+ys.length) xs.length T - (xs.length+ys.length))).toList)).toArray T (0,0)):=by
    rw[B,show w.heap.size=w.drew.heap.size from rfl,heap_alloc_new];congr 2;apply Array.ext';simp
   have:=(MemAt.of_heap h6).sub;simpa using this
end
end Go.Sw
namespace Go.Sw
open Go Go.RowKit
section
variable {P:Program}{α β:Type}
end
end Go.Sw
namespace Go.Sw
open Go Go.RowKit
section
variable {F:Frm}{ops:Array Oper}{σ σ' σA:AS}
end
end Go.Sw
namespace Go.Sw
open Go Go.RowKit
structure Itm4 where
 s:Slot
 nw:List (Nat×Ent)
 fr:List (Nat×Ent)
 rl:List Nat
 dl:List Nat
inductive JP4 (F:Frm) (ops:Array Oper) (OK:List (Nat×Ent)->Prop):List Oper->AS->List Itm4->AS->Prop
 |nil {σ:AS}:JP4 F ops OK [] σ [] σ
 |cons {o:Oper} {os:List Oper} {σ σ':AS} {s:Slot} {new:List (Nat×Ent)} {h:List Itm4}:GK ops σ.g o true->JO F o σ s new->gA o.dst F.N=true->
   JP4 F ops OK os ⟨hX o.dst s σ.g,new++σ.d⟩ h σ'->JP4 F ops OK (o::os) σ (⟨s,new,new,Jm σ.g o,[]⟩::h) σ'
 |left {o:Oper} {os:List Oper} {σ σ':AS} {h:List Itm4}:GK ops σ.g o false->gA o.dst F.N=true->JP4 F ops OK os ⟨hX o.dst .top σ.g,σ.d⟩ h σ'->JP4 F ops OK (o::os) σ (⟨.top,[],[],Jm σ.g o,[]⟩::h) σ'
 |pu {o:Oper} {os:List Oper} {σ σ':AS} {s:Slot} {h:List Itm4}:GK ops σ.g o true->gA o.dst F.N=true->(∀d,OK d->JO F o ⟨σ.g,d⟩ s [])->JP4 F ops OK os ⟨hX o.dst s σ.g,σ.d⟩ h σ'->JP4 F ops OK (o::os) σ (⟨s,[],[],[],[]⟩::h) σ'
 |mv {o:Oper} {os:List Oper} {σ σ':AS} {s:Slot} {nw fr:List (Nat×Ent)} {dl:List Nat} {h:List Itm4}:GK ops σ.g o true->gA o.dst F.N=true->(∀σ2,Loc ops o σ σ2->σ2.free fr=true->JM F o σ2 ⟨hX o.dst s σ2.g,nw++iH σ2.d dl⟩)->
   JP4 F ops OK os ⟨hX o.dst s σ.g,nw++iH σ.d dl⟩ h σ'->JP4 F ops OK (o::os) σ (⟨s,nw,fr,Jm σ.g o,dl⟩::h) σ'
 |mvx {o:Oper} {os:List Oper} {σ σ':AS} {s:Slot} {nw fr:List (Nat×Ent)} {dl ex:List Nat} {h:List Itm4}:GK ops σ.g o true->gA o.dst F.N=true->(∀σ2,Loc ops o σ σ2->(∀l∈ex,aW σ2.d l=aW σ.d l)->σ2.free fr=true->JM F o σ2 ⟨hX o.dst s σ2.g,nw++iH σ2.d dl⟩)->
   JP4 F ops OK os ⟨hX o.dst s σ.g,nw++iH σ.d dl⟩ h σ'->JP4 F ops OK (o::os) σ (⟨s,nw,fr,Jm σ.g o++ex,dl⟩::h) σ'
def NK(a b:Itm4):Bool:=(a.nw.map (·.1)++a.dl).all fun l=>(!b.rl.contains l && !b.dl.contains l) && b.nw.all fun y=> !Nat.beq y.1 l
def EW(its:List Itm4)(ms:List Nat):Bool:=
 (List.range its.length).all fun i=>(List.range its.length).all fun j=>Nat.beq i j || (ms.getD j 0).testBit i || (ms.getD i 0).testBit j ||
  (match its[i]?,its[j]? with | some a,some b=>NK a b | _,_=>true)
def EX(σ:AS)(its:List Itm4)(ms:List Nat):Bool:=
 (List.range its.length).all fun j=>match its[j]? with
  |none=>true
  |some b=>b.fr.all fun x=>(σ.g.all fun y=> !y.2.lab.contains x.1) && (σ.d.all fun y=> !Nat.beq y.1 x.1 && !y.2.lab.contains x.1) &&
    (List.range its.length).all fun i=>Nat.beq i j || (ms.getD i 0).testBit j || (match its[i]? with | none=>true | some a=> !a.s.lab.contains x.1 && a.nw.all fun y=> !Nat.beq y.1 x.1 && !y.2.lab.contains x.1)
def Aw(nw:Nat->List (Nat×Ent))(dl:Nat->List Nat)(d:List (Nat×Ent)):Nat->(Nat->Bool)->List (Nat×Ent)
 | 0,_=>d
 |m+1,L=>bif L m then nw m++iH (Aw nw dl d m L) (dl m) else Aw nw dl d m L
section
variable {nw:Nat->List (Nat×Ent)}{dl:Nat->List Nat}{d:List (Nat×Ent)}
theorem Dj{l:Nat}{L L':Nat->Bool}:∀{m:Nat},(∀i,i<m->(aW (nw i) l≠none\/l∈dl i)->L i=L' i)->aW (Aw nw dl d m L) l=aW (Aw nw dl d m L') l
 | 0,_=>rfl
 |m+1,h=>by
  have z:=Dj (m:=m) (fun i D=>h i (by omega));simp only[Aw];by_cases u:aW (nw m) l=none/\l∉dl m
  ·cases L m<;>cases L' m<;>simp[fV,u.1,pD,u.2,z]
  ·have C:aW (nw m) l≠none\/l∈dl m:=by
    by_cases A:aW (nw m) l=none
    ·by_cases B:l∈dl m
     ·exact .inr B
     ·exact absurd ⟨A,B⟩ u
    ·exact .inl A
   rw[h m (by omega) C];cases L' m<;>simp[fV,pD,z]
theorem EY{l j:Nat}{en:Ent}{L:Nat->Bool}(hj:aW (nw j) l=some en)(hL:L j=true):∀{m:Nat},j<m->(∀i,j<i->i<m->L i=true->aW (nw i) l=none/\l∉dl i)->aW (Aw nw dl d m L) l=some en
 | 0,h,_=>by omega
 |m+1,h,B=>by
  simp only[Aw];by_cases C:j=m
  ·subst C;rw[hL];simp[fV,hj]
  ·have z:=EY (m:=m) hj hL (by omega) (fun i u A=>B i u (by omega));cases hLm:L m with
   |false=>simpa using z
   |true=>obtain⟨u,A⟩:=B m (by omega) (by omega) hLm;simp[fV,u,pD,A,z]
theorem Su{l j:Nat}{L:Nat->Bool}(hj:aW (nw j) l=none)(hg:l∈dl j)(hL:L j=true):∀{m:Nat},j<m->(∀i,j<i->i<m->L i=true->aW (nw i) l=none/\l∉dl i)->aW (Aw nw dl d m L) l=none
 | 0,h,_=>by omega
 |m+1,h,B=>by
  simp only[Aw];by_cases C:j=m
  ·subst C;rw[hL];simp[fV,hj,pD,hg]
  ·have z:=Su (m:=m) hj hg hL (by omega) (fun i u A=>B i u (by omega));cases hLm:L m with
   |false=>simpa using z
   |true=>obtain⟨u,A⟩:=B m (by omega) (by omega) hLm;simp[fV,u,pD,A,z]
theorem Le{y:Nat×Ent}{i:Nat}:∀{d:List (Nat×Ent)},y∈vE d i->y∈d
 | [],h=>by simp[vE] at h
 | (j,u)::r,h=>by
  simp only[vE] at h;cases hb:Nat.beq j i with
  |true=>rw[hb] at h;exact aAz _ (Le h)
  |false=>
   rw[hb] at h;rcases aAo.1 h with h | h
   ·rw[h];exact aA6
   ·exact aAz _ (Le h)
theorem On{y:Nat×Ent}{d:List (Nat×Ent)}:∀{H:List Nat},y∈iH d H->y∈d
 | [],h=>h
 |_::H,h=>On (H:=H) (Le h)
theorem Qv{y:Nat×Ent}{L:Nat->Bool}:∀{m:Nat},y∈Aw nw dl d m L->y∈d\/∃i,i<m/\L i=true/\y∈nw i
 | 0,h=> .inl h
 |m+1,h=>by
  simp only[Aw] at h;cases hL:L m with
  |false=>
   rw[hL] at h;rcases Qv (m:=m) h with h |⟨i,z,u⟩
   ·exact .inl h
   ·exact .inr ⟨i,by omega,u⟩
  |true=>
   rw[hL] at h;rcases aA0.1 h with h | h
   ·exact .inr ⟨m,by omega,hL,h⟩
   ·rcases Qv (m:=m) (On h) with h |⟨i,z,u⟩
    ·exact .inl h
    ·exact .inr ⟨i,by omega,u⟩
theorem Ey{L:Nat->Bool}{m:Nat}:∀{n:Nat},m<=n->(∀i,m<=i->i<n->L i=false)->Aw nw dl d n L=Aw nw dl d m L
 | 0,h,_=>by
  have:m=0:=by omega
  subst this;rfl
 |n+1,h,z=>by
  rcases aBc n m with u | u
  ·have:m=n+1:=by omega
   subst this;rfl
  ·simp only[Aw,z n u (by omega),pF];exact Ey u fun i A B=>z i A (by omega)
theorem Ht{L:Nat->Bool}:∀{m:Nat},Aw nw dl d (m+1) L=Aw (fun i=>nw (i+1)) (fun i=>dl (i+1)) (bif L 0 then nw 0++iH d (dl 0) else d) m (fun i=>L (i+1))
 | 0=>rfl
 |m+1=>by rw[Aw,Ht (m:=m)];rfl
end
section
variable {F:Frm}{ops:Array Oper}{OK:List (Nat×Ent)->Prop}
structure AtI4 (F:Frm) (ops:Array Oper) (OK:List (Nat×Ent)->Prop) (dst:Nat->Option Tmp) (its:Nat->Itm4) (σ:AS) (n:Nat) (i:Nat) (o:Oper):Prop where
 ok:gA o.dst F.N=true
 cs:(∃ex,(its i).rl=Jm (Af dst (fun i=>(its i).s) σ.g n (fun k=>decide (k<i))) o++ex/\
  ((GK ops (Af dst (fun i=>(its i).s) σ.g n (fun k=>decide (k<i))) o true/\(its i).fr=(its i).nw/\(its i).dl=[]/\JO F o ⟨Af dst (fun i=>(its i).s) σ.g n (fun k=>decide (k<i)),Aw (fun i=>(its i).nw) (fun i=>(its i).dl) σ.d n (fun k=>decide (k<i))⟩ (its i).s (its i).nw)\/
  (GK ops (Af dst (fun i=>(its i).s) σ.g n (fun k=>decide (k<i))) o false/\(its i).s= .top/\(its i).nw=[]/\(its i).dl=[])\/
  (GK ops (Af dst (fun i=>(its i).s) σ.g n (fun k=>decide (k<i))) o true/\
   ∀σ2,Loc ops o ⟨Af dst (fun i=>(its i).s) σ.g n (fun k=>decide (k<i)),Aw (fun i=>(its i).nw) (fun i=>(its i).dl) σ.d n (fun k=>decide (k<i))⟩ σ2->(∀l∈ex,aW σ2.d l=aW (Aw (fun i=>(its i).nw) (fun i=>(its i).dl) σ.d n (fun k=>decide (k<i))) l)->σ2.free (its i).fr=true->JM F o σ2 ⟨hX o.dst (its i).s σ2.g,(its i).nw++iH σ2.d (its i).dl⟩)))\/
  (GK ops (Af dst (fun i=>(its i).s) σ.g n (fun k=>decide (k<i))) o true/\(its i).nw=[]/\(its i).fr=[]/\(its i).dl=[]/\∀d,OK d->JO F o ⟨Af dst (fun i=>(its i).s) σ.g n (fun k=>decide (k<i)),d⟩ (its i).s [])
theorem JP4.len{os:List Oper}{σ σ':AS}{h:List Itm4}(hp:JP4 F ops OK os σ h σ'):h.length=os.length:=by
 induction hp with
 |nil=>rfl
 |cons _ _ _ _ u=>simp[u]
 |left _ _ _ u=>simp[u]
 |pu _ _ _ _ u=>simp[u]
 |mv _ _ _ _ u=>simp[u]
 |mvx _ _ _ _ u=>simp[u]
theorem JP4.at{os:List Oper}{σ σ':AS}{h:List Itm4}(hp:JP4 F ops OK os σ h σ'):
  σ'.g=Af (fun i=>(os[i]?).bind (·.dst)) (fun i=>(h.getD i ⟨.top,[],[],[],[]⟩).s) σ.g os.length (fun _=>true)/\σ'.d=Aw (fun i=>(h.getD i ⟨.top,[],[],[],[]⟩).nw) (fun i=>(h.getD i ⟨.top,[],[],[],[]⟩).dl) σ.d os.length (fun _=>true)/\
  ∀i o,os[i]? =some o->AtI4 F ops OK (fun i=>(os[i]?).bind (·.dst)) (fun i=>h.getD i ⟨.top,[],[],[],[]⟩) σ os.length i o:=by
 have step:∀{u:Oper} {os:List Oper} {σ σ':AS} {h:List Itm4} {it:Itm4},
   (σ'.g=Af (fun i=>(os[i]?).bind (·.dst)) (fun i=>(h.getD i ⟨.top,[],[],[],[]⟩).s) (hX u.dst it.s σ.g) os.length (fun _=>true)/\σ'.d=Aw (fun i=>(h.getD i ⟨.top,[],[],[],[]⟩).nw) (fun i=>(h.getD i ⟨.top,[],[],[],[]⟩).dl) (it.nw++iH σ.d it.dl) os.length (fun _=>true)/\
    ∀i o,os[i]? =some o->AtI4 F ops OK (fun i=>(os[i]?).bind (·.dst)) (fun i=>h.getD i ⟨.top,[],[],[],[]⟩) ⟨hX u.dst it.s σ.g,it.nw++iH σ.d it.dl⟩ os.length i o)->
   AtI4 F ops OK (fun i=>((u::os)[i]?).bind (·.dst)) (fun i=>(it::h).getD i ⟨.top,[],[],[],[]⟩) σ (u::os).length 0 u->
   (σ'.g=Af (fun i=>((u::os)[i]?).bind (·.dst)) (fun i=>((it::h).getD i ⟨.top,[],[],[],[]⟩).s) σ.g (u::os).length (fun _=>true)/\σ'.d=Aw (fun i=>((it::h).getD i ⟨.top,[],[],[],[]⟩).nw) (fun i=>((it::h).getD i ⟨.top,[],[],[],[]⟩).dl) σ.d (u::os).length (fun _=>true)/\
    ∀i o,(u::os)[i]? =some o->AtI4 F ops OK (fun i=>((u::os)[i]?).bind (·.dst)) (fun i=>(it::h).getD i ⟨.top,[],[],[],[]⟩) σ (u::os).length i o):=by
  rintro u os σ σ' h it ⟨M,N,O⟩ P;refine⟨by rw[M,aAq,Hs];rfl,by rw[N,aAq,Ht];rfl,fun i o D=>?_⟩;cases i with
  |zero=>simp at D;subst D;exact P
  |succ i=>
   have G:=O i o (by simpa using D);have H:Af (fun i=>((u::os)[i]?).bind (·.dst)) (fun i=>((it::h).getD i ⟨.top,[],[],[],[]⟩).s) σ.g (u::os).length (fun k=>decide (k<i+1))=
     Af (fun i=>(os[i]?).bind (·.dst)) (fun i=>(h.getD i ⟨.top,[],[],[],[]⟩).s) (hX u.dst it.s σ.g) os.length (fun k=>decide (k<i)):=by
    rw[aAq,Hs];simp
   have I:Aw (fun i=>((it::h).getD i ⟨.top,[],[],[],[]⟩).nw) (fun i=>((it::h).getD i ⟨.top,[],[],[],[]⟩).dl) σ.d (u::os).length (fun k=>decide (k<i+1))=
     Aw (fun i=>(h.getD i ⟨.top,[],[],[],[]⟩).nw) (fun i=>(h.getD i ⟨.top,[],[],[],[]⟩).dl) (it.nw++iH σ.d it.dl) os.length (fun k=>decide (k<i)):=by
    rw[aAq,Ht];simp
   refine⟨G.ok,?_⟩;rw[H,I];exact G.cs
 have A:∀{u:Oper} {os:List Oper} {σ:AS} {h:List Itm4} {it:Itm4},Af (fun i=>((u::os)[i]?).bind (·.dst)) (fun i=>((it::h).getD i ⟨.top,[],[],[],[]⟩).s) σ.g (u::os).length (fun k=>decide (k<0))=σ.g:=by
  intro u os σ h it;rw[Ew (m:=0) (aEl _) (fun i _ _=>by simp)];rfl
 have B:∀{u:Oper} {os:List Oper} {σ:AS} {h:List Itm4} {it:Itm4},Aw (fun i=>((it::h).getD i ⟨.top,[],[],[],[]⟩).nw) (fun i=>((it::h).getD i ⟨.top,[],[],[],[]⟩).dl) σ.d (u::os).length (fun k=>decide (k<0))=σ.d:=by
  intro u os σ h it;rw[Ey (m:=0) (aEl _) (fun i _ _=>by simp)];rfl
 induction hp with
 |nil=>exact⟨rfl,rfl,fun i o h=>by simp at h⟩
 |cons g j d _ z=>
  rename_i o os σ σ' s new h _;refine step (it:=⟨s,new,new,Jm σ.g o,[]⟩) z ⟨d,?_⟩;rw[A,B];exact .inl ⟨[],by simp,.inl ⟨g,rfl,rfl,j⟩⟩
 |left g d _ z=>
  rename_i o os σ σ' h _;refine step (it:=⟨.top,[],[],Jm σ.g o,[]⟩) z ⟨d,?_⟩;rw[A,B];exact .inl ⟨[],by simp,.inr (.inl ⟨g,rfl,rfl,rfl⟩)⟩
 |pu g C Q hp z=>
  rename_i o os σ σ' s h;refine step (it:=⟨s,[],[],[],[]⟩) z ⟨C,?_⟩;rw[A,B];exact .inr ⟨g,rfl,rfl,rfl,Q⟩
 |mv g C E hp z=>
  rename_i o os σ σ' s nw fr dl h;refine step (it:=⟨s,nw,fr,Jm σ.g o,dl⟩) z ⟨C,?_⟩;rw[A,B];exact .inl ⟨[],by simp,.inr (.inr ⟨g,fun σ2 K _ L=>E σ2 K L⟩)⟩
 |mvx g C E hp z=>
  rename_i o os σ σ' s nw fr dl ex h;refine step (it:=⟨s,nw,fr,Jm σ.g o++ex,dl⟩) z ⟨C,?_⟩;rw[A,B];exact .inl ⟨ex,rfl,.inr (.inr ⟨g,E⟩)⟩
theorem MO{id:Nat}{ops:Array Oper}{cs:List Code}{σ σ1 σ':AS}{its:List Itm4}{Q:Exit->Act->World->Prop}(OK:List (Nat×Ent)->Prop)(n:Nat)(ms:List Nat)(hm:F.P.follows .mixedOrders=true)(hp:JP4 F ops OK (ops.toList.take n) σ its σ1)(ht:J F ops (ops.toList.drop n) σ1 σ')
  (hn:Nat.ble n ops.size=true) (hbk:Ce ops=true) (hms:Wi ops ms=true) (hok:Gf ops n ms=true) (hcm:EW its ms=true) (hfe:EX σ its ms=true) (hOK:∀L,OK (Aw (fun i=>(its.getD i ⟨.top,[],[],[],[]⟩).nw) (fun i=>(its.getD i ⟨.top,[],[],[],[]⟩).dl) σ.d n L)) (k:W F cs σ' Q):W F (.region id ops true::cs) σ Q:=by
 intro a w hs;have hn:=aAd hn;obtain⟨l1,be⟩:∃l1,l1=ops.toList.take n:=⟨_,rfl⟩
 obtain⟨l2,ay⟩:∃l2,l2=ops.toList.drop n:=⟨_,rfl⟩
 rw[<-be] at hp;rw[<-ay] at ht;have N:ops.toList=l1++l2:=by rw[be,ay];exact(aAt n ops.toList).symm
 have al:l1.length=n:=by rw[be,aAp,aA3];exact aB2 hn
 have cy:its.length=n:=by rw[hp.len,al]
 obtain⟨s1,d1,bf⟩:=hp.at;obtain⟨dst,bg⟩:∃dst:Nat->Option Tmp,dst=fun i=>(l1[i]?).bind (·.dst):=⟨_,rfl⟩
 obtain⟨it,an⟩:∃it:Nat->Itm4,it=fun i=>its.getD i ⟨.top,[],[],[],[]⟩:=⟨_,rfl⟩
 rw[<-bg,al] at bf;rw[<-an] at bf;rw[<-bg,al] at s1;rw[al] at d1;have s1:σ1.g=Af dst (fun i=>(it i).s) σ.g n (fun _=>true):=by rw[s1,an]
 have d1:σ1.d=Aw (fun i=>(it i).nw) (fun i=>(it i).dl) σ.d n (fun _=>true):=by rw[d1,an]
 have cz:ops.size=l1.length+l2.length:=by rw[<-aA3,N,sM]
 have b7:∀i:Nat,ops[i]? =(l1++l2)[i]? :=fun i=>by rw[<-N];exact(Array.getElem?_toList).symm
 have bn:∀i,i<n->l1[i]? =ops[i]? :=fun i z=>by rw[b7,aBt (by omega)]
 have au:∀i o,i<n->ops[i]? =some o->dst i=o.dst:=fun i o z C=>by rw[bg];show (l1[i]?).bind _=_;rw[bn i z,C];rfl
 have bo:∀i,i<n->∃o,ops[i]? =some o:=fun i z=>⟨ops[i]'(by omega),aBs (by omega)⟩
 have ah:=JL hbk hms;have b8:∀i o,i<n->ops[i]? =some o->AtI4 F ops OK dst it σ n i o:=fun i o z C=>bf i o (by rw[bn i z];exact C);have av:∀q,q<n->its[q]? =some (it q):=fun q hq=>by
  rw[an];simp only[aAl];rw[aAg (by omega)];rfl
 have bp:∀i j,i<n->j<n->i≠j->Anc ops j i\/Anc ops i j\/NK (it i) (it j)=true:=by
  intro i j z B O;have A:=aAh.1 (aAh.1 hcm i (aBw.2 (by omega))) j (aBw.2 (by omega));simp only[aCi] at A;rcases A with ((A | A) | A) | A
  ·exact absurd (aAb A) O
  ·exact .inl (ah _ _ A)
  ·exact .inr (.inl (ah _ _ A))
  ·refine .inr (.inr ?_);rw[av i z,av j B] at A;exact A
 have a2:∀{a b:Itm4} {l:Nat},NK a b=true->(aW a.nw l≠none\/l∈a.dl)->l∉b.rl/\l∉b.dl/\∀y∈b.nw,y.1≠l:=by
  intro a b l h U;have N:l∈a.nw.map (·.1)++a.dl:=by
   rcases U with U | U
   ·obtain⟨e,he⟩:=Option.ne_none_iff_exists'.1 U;exact aDm _ (aBn.2 ⟨_,lR he,rfl⟩)
   ·exact List.mem_append_right _ U
  have:=aAh.1 h _ N;simp only[aAr,aBy,aAh] at this;refine⟨fun E=>?_,fun E=>?_,fun y hy e=>?_⟩
  ·have D:=this.1.1;simp at D;exact D E
  ·have D:=this.1.2;simp at D;exact D E
  ·have D:=this.2 y hy;rw[e] at D;simp at D
 obtain⟨σL,af⟩:∃σL:(Nat->Bool)->AS,σL=fun L=>⟨Af dst (fun i=>(it i).s) σ.g n L,Aw (fun i=>(it i).nw) (fun i=>(it i).dl) σ.d n L⟩:=⟨_,rfl⟩
 have bq:∀i o t,i<n->ops[i]? =some o->o.dst=some t->∀j o',j<n->ops[j]? =some o'->(j=i\/o'.dst≠some t)/\(t∈Of ops o'->Anc ops j i\/Anc ops i j):=by
  intro i o t z C I j o' B R;have A:=aAh.1 hok i (aBw.2 (by omega));simp only[C,aAn z,I] at A;have D:=aAh.1 A j (aBw.2 B);simp only[R,aAr,aCi,aBy] at D;obtain⟨G,h4⟩:=D;refine⟨G.imp (fun h=>by simpa using h) (fun h=>by simpa using h),fun E=>?_⟩;rcases h4 with (h4 | h4) | h4
  ·simp at h4;exact absurd E h4
  ·exact .inl (ah _ _ h4)
  ·exact .inr (ah _ _ h4)
 have br:∀{i:Nat} {o:Oper},¬i<n->ops[i]? =some o->∀{j:Nat},j<i->Anc ops i j:=by
  intro i o z C j B;have am:i<ops.size:=by
   rcases aBc i ops.size with h | h
   ·exact h
   ·simp[aBv h] at C
  have A:=aAh.1 hok i (aBw.2 am);simp only[C,aAj z] at A;exact ah _ _ (aAh.1 A j (aBw.2 B))
 have bs:∀i o,i<ops.size->ops[i]? =some o->∀j∈Ku o,j<i:=fun i o _ C j B=>Ge hbk C B;have b9:∀m o,n<=m->ops[m]? =some o->∀j∈Ku o,j<ops.size/\decide (j<m)=true:=by
  intro m o _ C j B;have am:m<ops.size:=by
   rcases aBc m ops.size with h | h
   ·exact h
   ·simp[aBv h] at C
  have:=bs m o am C j B;exact⟨by omega,by simpa using this⟩
 have bt:∀L a w,St F (σL L) a w->(∀i,i<n->L i=true)->St F σ1 a w:=by
  intro L a w h ab;rw[af] at h;refine St.congr (fun u=>?_) (fun l=>?_) h
  ·rw[s1];exact Dh fun i z _=>by rw[ab i z]
  ·rw[d1];exact Dj fun i z _=>by rw[ab i z]
 have ca:∀L a w j o,EE ops L->St F (σL L) a w->j<n->ops[j]? =some o->L j=false->(∀i∈Ku o,L i=true)->∀K:Act->World->Prop,
   (∀a' w',St F (σL fun i=>i==j || L i) a' w'->K a' w')->wpOpIn F.fe 0 F.P ops (Exit.then (run F.fe F.P Q cs) Q) j K a w:=by
  intro L a w j o ac h B C aj b1 K hK;have hA:=b8 j o B C;have bu:∀i,Anc ops j i->L i=true:=by
   intro i z;cases z with
   |one R I=>rw[C] at R;cases R;exact b1 _ I
   |up R I hr=>rw[C] at R;cases R;exact hr.down ac (b1 _ I)
  have ai:∀i,L i=true->¬Anc ops i j:=fun i z E=>by rw[E.down ac z] at aj;cases aj
  have bv:∀u∈Of ops o,lk (σL L).g u=lk (Af dst (fun i=>(it i).s) σ.g n (fun k=>decide (k<j))) u:=by
   intro u hu;rw[af];refine Dh fun i z I=>?_;obtain⟨oi,ao⟩:=bo i z;rw[au i oi z ao] at I;rcases (bq i oi u z ao I j o B C).2 hu with A | A
   ·have:=A.lt hbk;rw[bu i A];simpa using this
   ·have D:=A.lt hbk;have G:L i=false:=by
     cases M:L i with
     |false=>rfl
     |true=>exact absurd A (ai i M)
    rw[G];simp;omega
  obtain⟨σ0,c3,bh,ex,bc,bi⟩:∃σ0:AS,σ0.g=Af dst (fun i=>(it i).s) σ.g n (fun k=>decide (k<j))/\Loc ops o σ0 (σL L)/\∃ex:List Nat,(∀l∈ex,aW (σL L).d l=aW σ0.d l)/\
    ((GK ops σ0.g o true/\(it j).fr=(it j).nw/\(it j).dl=[]/\JO F o σ0 (it j).s (it j).nw)\/(GK ops σ0.g o false/\(it j).s= .top/\(it j).nw=[]/\(it j).dl=[])\/
     (GK ops σ0.g o true/\∀σ2,Loc ops o σ0 σ2->(∀l∈ex,aW σ2.d l=aW σ0.d l)->σ2.free (it j).fr=true->JM F o σ2 ⟨hX o.dst (it j).s σ2.g,(it j).nw++iH σ2.d (it j).dl⟩)):=by
   rcases hA.cs with⟨ex,b6,bi⟩|⟨S,a1,bk,aq,bl⟩
   ·have I:∀l∈(it j).rl,aW (σL L).d l=aW (Aw (fun i=>(it i).nw) (fun i=>(it i).dl) σ.d n (fun k=>decide (k<j))) l:=by
     intro l N;rw[af];refine Dj fun i z U=>?_;by_cases O:i=j
     ·subst O;rw[aj];simp
     ·rcases bp i j z B O with A | A | A
      ·have:=A.lt hbk;rw[bu i A];simpa using this
      ·have D:=A.lt hbk;have G:L i=false:=by
        cases M:L i with
        |false=>rfl
        |true=>exact absurd A (ai i M)
       rw[G];simp;omega
      ·exact absurd N (a2 A U).1
    exact⟨⟨Af dst (fun i=>(it i).s) σ.g n (fun k=>decide (k<j)),Aw (fun i=>(it i).nw) (fun i=>(it i).dl) σ.d n (fun k=>decide (k<j))⟩,rfl,⟨bv,fun l N=>I l (by rw[b6];exact aDm _ N)⟩,ex,fun l N=>I l (by rw[b6];exact List.mem_append_right _ N),bi⟩
   ·exact⟨⟨Af dst (fun i=>(it i).s) σ.g n (fun k=>decide (k<j)),(σL L).d⟩,rfl,⟨bv,fun l _=>rfl⟩,[],fun l N=>rfl,.inl ⟨S,by rw[bk,a1],aq,by rw[a1];exact bl _ (by rw[af,an];exact hOK L)⟩⟩
  have bw:∀l,(aW (it j).nw l≠none\/l∈(it j).dl)->∀i,j<i->i<n->(i==j || L i)=true->aW (it i).nw l=none/\l∉(it i).dl:=by
   intro l N i a9 z M;have O:i≠j:=by omega
   have cb:L i=true:=by simpa[O] using M
   rcases bp j i B z (aC9 O) with A | A | A
   ·exact absurd A (ai i cb)
   ·have:=A.lt hbk;omega
   ·refine⟨?_,?_⟩
    ·cases hy:aW (it i).nw l with
     |none=>rfl
     |some e=>exact absurd rfl ((a2 (l:=l) A N).2.2 _ (lR hy))
    ·exact(a2 (l:=l) A N).2.1
  have a3:∀a' w',St F ⟨hX o.dst (it j).s (σL L).g,(it j).nw++iH (σL L).d (it j).dl⟩ a' w'->St F (σL fun i=>i==j || L i) a' w':=by
   intro a' w' h';rw[af] at h' ⊢;refine St.congr (fun u=>?_) (fun l=>?_) h'
   ·show lk (Af _ _ _ _ _) u=lk (hX _ _ (Af _ _ _ _ _)) u;rw[Gg];split
    ·rename_i I;refine EU (by rw[au j o B C];exact I) (by simp) B fun i z O E=>?_;obtain⟨oi,ao⟩:=bo i z;rw[au i oi z ao] at E;rcases (bq j o u B C I i oi z ao).1 with A | A
     ·exact O A
     ·exact A E
    ·rename_i I;refine Dh fun i z E=>?_;by_cases O:i=j
     ·subst O;rw[au i o z C] at E;exact absurd E I
     ·simp[O]
   ·show aW (Aw _ _ _ _ _) l=aW (_++iH (Aw _ _ _ _ _) _) l;rw[fV];cases U:aW (it j).nw l with
    |some en=>exact EY U (by simp) B (bw l (.inl (by rw[U];simp)))
    |none=>
     simp only[Option.none_or];rw[pD];by_cases S:l∈(it j).dl
     ·rw[aAn S];exact Su U S (by simp) B (bw l (.inr S))
     ·rw[aAj S];refine Dj fun i z E=>?_;by_cases O:i=j
      ·subst O;rcases E with E | E
       ·exact absurd U E
       ·exact absurd E S
      ·simp[O]
  have a4:AS.free (σL L) (it j).fr=true:=by
   refine aAh.2 fun x U=>?_;have h0:=aAh.1 hfe j (aBw.2 (by omega));rw[av j B] at h0;have A:=aAh.1 h0 x U;simp only[aAr,aAh,aCi] at A;obtain⟨⟨A,D⟩,G⟩:=A;have h4:∀i,i<n->L i=true->(!(it i).s.lab.contains x.1)=true/\∀y∈(it i).nw,(!Nat.beq y.1 x.1)=true/\(!y.2.lab.contains x.1)=true:=by
    intro i z M;have V:=G i (aBw.2 (by omega));rw[av i z] at V;rcases V with (V | V) | V
    ·rw[aAb V,aj] at M;cases M
    ·exact absurd (ah _ _ V) (ai i M)
    ·simp only[aAr,aAh] at V;exact V
   rw[af];simp only[aAr,aAh];refine⟨fun y hy=>?_,fun y hy=>?_⟩
   ·rcases Qu hy with V |⟨i,z,M,e⟩
    ·exact A y V
    ·rw[e];exact(h4 i z M).1
   ·rcases Qv hy with V |⟨i,z,M,hy⟩
    ·exact D y V
    ·exact(h4 i z M).2 y hy
  have a5:∀b,GK ops σ0.g o b->Region.wanted o (yielded ops a.tmps)=b:=by
   intro b S;obtain⟨⟨ρ,E,ad⟩,_,_⟩:=h;exact yP (NJ S bh) fun t s _ ht=>ad t s ht
  unfold wpOpIn;rw[C];rcases bi with⟨S,bk,aq,bl⟩|⟨S,cw,a1,aq⟩|⟨S,a7⟩
  ·simp only[a5 true S,aBb];obtain⟨⟨ρ,E,ad⟩,hz,ap⟩:=h;refine(NI bl bh ρ _ a w (bT E ad _)).wpIn fun v w' hr=>hK _ _ (a3 _ _ ?_);rw[bk] at a4;have:=St.put E ad hz ap a4 hA.ok hr;rw[aq];cases I:o.dst with
   |none=>rw[I] at this;exact this
   |some t=>rw[I] at this;exact this
  ·simp only[a5 false S,aAw,aA4];refine⟨fun _ _=>trivial,hK _ _ (a3 _ _ ?_)⟩;obtain⟨⟨ρ,E,ad⟩,hz,ap⟩:=h;have:=St.put (s:= .top) (new:=[]) (v:=undef) (dst:=o.dst) E ad hz ap rfl hA.ok Yd;rw[cw,a1,aq];cases I:o.dst with
   |none=>rw[I] at this;exact this
   |some t=>rw[I] at this;exact this
  ·simp only[a5 true S,aBb];exact(a7 (σL L) bh bc a4 a w h).wpIn fun v w' h'=>hK _ _ (a3 _ _ h')
 have aw:∀(listed:Array Bool) (L:Nat->Bool),listed.size=ops.size->(∀i,i<ops.size->listed.getD i false=L i)->∀i d,i<ops.size->listed.getD i d=L i:=by
  intro listed L H T i d z;have:=T i z;rw[aA7] at this ⊢;rw[aBs (by omega)] at this ⊢;simpa using this
 have ae:∀(listed:Array Bool) (L:Nat->Bool),listed.size=ops.size->(∀i,i<ops.size->listed.getD i false=L i)->∀i,i∈Region.ready .any ops listed↔
   (i<ops.size/\L i=false/\∀o,ops[i]? =some o->∀j∈Ku o,j<ops.size/\L j=true):=by
  intro listed L H T i;unfold Region.ready;rw[aCj,aBw];constructor
  ·rintro⟨A,D⟩;simp only[aAr,aBy] at D;obtain⟨D,G⟩:=D;rw[aw listed L H T i true A] at D;refine⟨A,D,fun o C j B=>?_⟩;rw[C] at G;simp only[aBu,aCe] at G;obtain⟨e,he,bj⟩:=aDi.1 B;have cc:e∈o.after:=by simpa using he
   have:=aDy.1 G e cc;split at bj
   ·rename_i hb;cases bj;rw[hb] at this;simp only[aBz,Bool.false_or] at this;rcases aBc e.on ops.size with N | N
    ·rw[aw listed L H T _ _ N] at this;exact⟨N,this⟩
    ·rw[aA7,aBv (by omega)] at this;simp at this
   ·cases bj
  ·rintro⟨A,D,G⟩;refine⟨A,?_⟩;have C:ops[i]? =some ops[i]:=aBs A;simp only[aAr,aBy,aw listed L H T i true A,D,aEy,C,aBu,aCe];refine aDy.2 fun e he=>?_;cases hb:Region.binds .any e with
   |false=>rfl
   |true=>
    have:=G _ C e.on (aDi.2 ⟨e,by simpa using he,by simp[hb]⟩);rw[aw listed L H T _ _ this.1,this.2];rfl
 have bx:∀(listed:Array Bool) (L:Nat->Bool) (j:Nat),listed.size=ops.size->j<ops.size->(∀i,i<ops.size->listed.getD i false=L i)->∀i,i<ops.size->(listed.setIfInBounds j true).getD i false=(i==j || L i):=by
  intro listed L j H B T i z;by_cases O:i=j
  ·subst O;simp only[aA7,aDj];simp[H,z]
  ·rw[getD_set_ne false (aC9 O),T i z];simp[O]
 have hB:∀aa m (listed:Array Bool) a w,listed.size=ops.size->(∀i,i<ops.size->listed.getD i false=decide (i<m))->EE ops (fun i=>decide (i<m))->n<=m->m+aa=ops.size->
   wpListIn F.fe 0 F.P ops (Exit.then (run F.fe F.P Q cs) Q) (ops.toList.drop m) a w->wpAnyIn F.fe 0 F.P .any ops (Exit.then (run F.fe F.P Q cs) Q) aa listed a w:=by
  intro aa
  induction aa with
  |zero=>
   intro m listed a w H ak _ b2 co X;refine⟨aD6.2 fun i z=>?_,?_⟩
   ·obtain⟨A,D,_⟩:=(ae listed _ H ak i).1 z;have:i<m:=by omega
    simp[this] at D
   ·rw[aDx (by rw[aA3];omega)] at X;exact X
  |succ aa ih=>
   intro m listed a w H ak ac b2 co X;have ax:m<ops.size:=by omega
   have cf:ops[m]? =some ops[m]:=aBs ax;have ch:∀i∈Region.ready .any ops listed,i=m:=by
    intro i z;obtain⟨A,D,G⟩:=(ae listed _ H ak i).1 z;have c0:m<=i:=by simpa using D
    rcases aBc m i with am | b5
    ·exfalso;have C:ops[i]? =some ops[i]:=aBs A;have a6:=br (by omega) C am;cases a6 with
     |one R B=>rw[C] at R;cases R;have:=(G _ C _ B).2;simp at this
     |up R B bm=>
      rw[C] at R;cases R;have a7:=(G _ C _ B).2;have:=bm.down ac a7;simp at this
    ·omega
   have ci:ops.toList.drop m=ops[m]::ops.toList.drop (m+1):=by
    rw[aCy (by rw[aA3];exact ax)];simp
   rw[ci] at X;refine⟨fun hr=>?_,fun i z=>?_⟩
   ·exfalso;have a8:m∉Region.ready .any ops listed:=by rw[hr];simp
    refine a8 ((ae listed _ H ak m).2 ⟨ax,by simp,fun o C j B=>?_⟩);exact b9 m o b2 C j B
   ·have:=ch i z;subst this;obtain⟨_,_,G⟩:=(ae listed _ H ak i).1 z;have cj:EE ops (fun k=>decide (k<i+1)):=by
     intro k o hk C j B;have hk:k<i+1:=by simpa using hk
     rcases aBc k i with h | h
     ·have:=ac k o (by simpa using h) C j B;have:j<i:=by simpa using this
      simp;omega
     ·have:k=i:=by omega
      subst this;have:=(G o C j B).2;have:j<k:=by simpa using this
      simp;omega
    have bz:∀a w,wpListIn F.fe 0 F.P ops (Exit.then (run F.fe F.P Q cs) Q) (ops.toList.drop (i+1)) a w->wpAnyIn F.fe 0 F.P .any ops (Exit.then (run F.fe F.P Q cs) Q) aa (listed.setIfInBounds i true) a w:=by
     intro a w X;refine ih (i+1) _ a w (by simpa using H) (fun j B=>?_) cj (by omega) (by omega) X;rw[bx listed _ i H ax ak j B];by_cases a9:j=i
     ·subst a9;simp
     ·have:(j<i+1)↔j<i:=by omega
      simp[a9,this]
    unfold wpOpIn;rw[cf];unfold wpListIn at X;split at X
    ·rename_i bd;simp only[bd,aBb];exact Oper.wpIn_mono bz X
    ·rename_i bd;simp only[bd];exact⟨X.1,bz _ _ X.2⟩
 have hA:∀aa (listed:Array Bool) (L:Nat->Bool) a w,listed.size=ops.size->(∀i,i<ops.size->listed.getD i false=L i)->EE ops L->(∀i,L i=true->i<n)->((List.range ops.size).filter fun i=>L i).length+aa=ops.size->
   St F (σL L) a w->wpAnyIn F.fe 0 F.P .any ops (Exit.then (run F.fe F.P Q cs) Q) aa listed a w:=by
  intro aa
  induction aa with
  |zero=>
   intro listed L a w H T ac a0 b3 h;have ab:∀i,i<ops.size->L i=true:=by
    have E:((List.range ops.size).filter fun i=>L i).length=(List.range ops.size).length:=by simpa using b3
    have:=List.length_filter_eq_length_iff.1 E;exact fun i z=>this i (aBw.2 z)
   have c1:ops.size=n:=by
    rcases aBc n ops.size with h | h
    ·have:=a0 n (ab n h);omega
    ·omega
   have ay:l2=[]:=aAu (by omega);refine⟨aD6.2 fun i z=>?_,?_⟩
   ·obtain⟨A,D,_⟩:=(ae listed _ H T i).1 z;rw[ab i A] at D;cases D
   ·have ba:=bt L a w h fun i z=>ab i (by omega);have:=ht (Exit.then (run F.fe F.P Q cs) Q) [] a w ba (fun a' w' h'=>wpListIn_nil (k a' w' h'));rw[ay] at this;exact this
  |succ aa ih=>
   intro listed L a w H T ac a0 b3 h;by_cases ab:∀i,i<n->L i=true
   ·
    have ba:=bt L a w h ab;have X:=ht (Exit.then (run F.fe F.P Q cs) Q) [] a w ba (fun a' w' h'=>wpListIn_nil (k a' w' h'));have bb:L=fun i=>decide (i<n):=by
     funext i;cases M:L i with
     |true=>simp[a0 i M]
     |false=>
      rcases aBc i n with h | h
      ·rw[ab i h] at M;cases M
      ·simp;omega
    have c2:((List.range ops.size).filter fun i=>L i).length=n:=by
     rw[bb];have:ops.size=n+(ops.size - n):=by omega
     rw[this,List.range_add,aB4];rw[aDa.2 (by intro i z;simpa using aBw.1 z),List.filter_eq_nil_iff.2 (by intro i z;simp at z ⊢;omega)];simp
    refine hB (aa+1) n listed a w H (fun i z=>by rw[T i z,bb]) (by rw[<-bb];exact ac) (aAi _) (by omega) ?_;have:ops.toList.drop n=l2:=by rw[N,<-al];simp
    rw[this];simpa using X
   ·refine⟨fun hr=>?_,fun i z=>?_⟩
    ·exfalso;have bc:∃i,i<n/\L i=false:=by
      refine Classical.byContradiction fun ai=>ab fun i z=>?_;cases M:L i with
      |true=>rfl
      |false=>exact absurd ⟨i,z,M⟩ ai
     obtain⟨i,⟨z,M⟩,ct⟩:∃i,(i<n/\L i=false)/\∀j,j<i->L j=true:=by
      obtain⟨i,z⟩:=bc
      induction i using Nat.strongRecOn with
      |_ i cx=>
       by_cases B:∃j,j<i/\L j=false
       ·obtain⟨j,A,D⟩:=B;exact cx j A ⟨by omega,D⟩
       ·refine⟨i,z,fun j cq=>?_⟩;cases aj:L j with
        |true=>rfl
        |false=>exact absurd ⟨j,cq,aj⟩ B
     have a8:i∉Region.ready .any ops listed:=by rw[hr];simp
     refine a8 ((ae listed _ H T i).2 ⟨by omega,M,fun o C j B=>?_⟩);have:=bs i o (by omega) C j B;exact⟨by omega,ct j this⟩
    ·obtain⟨A,D,G⟩:=(ae listed _ H T i).1 z;have C:ops[i]? =some ops[i]:=aBs A;have ck:i<n:=by
      refine Classical.byContradiction fun b5=>ab fun j B=>?_;have a6:=br b5 C (j:=j) (by omega);cases a6 with
      |one R B=>rw[C] at R;cases R;exact(G _ C _ B).2
      |up R B bm=>rw[C] at R;cases R;exact bm.down ac (G _ C _ B).2
     refine ca L a w i _ ac h ck C D (fun j B=>(G _ C j B).2) _ fun a' w' h'=>?_;refine ih _ _ a' w' (by simpa using H) (bx listed L i H A T) ?_ ?_ ?_ h'
     ·intro q o hq b4 j B;by_cases az:q=i
      ·subst az;simp[(G o b4 j B).2]
      ·have:L q=true:=by simpa[az] using hq
       simp[ac q o this b4 j B]
     ·intro q hq;by_cases az:q=i
      ·omega
      ·exact a0 q (by simpa[az] using hq)
     ·have:((List.range ops.size).filter fun q=>q==i || L q).length=((List.range ops.size).filter fun q=>L q).length+1:=AW ops.size i L A D;omega
 refine wpIn_region_any hm ?_;refine hA ops.size _ (fun _=>false) a _ (by simp) (fun i z=>by rw[aA7,Array.getElem?_replicate,aAn z];rfl) (fun _ _ h=>by cases h) (fun _ h=>by cases h) (by rw[List.filter_eq_nil_iff.2 (fun _ _ h=>by cases h)];simp) ?_;obtain⟨⟨ρ,E,ad⟩,hz,ap⟩:=hs;have hb:Below w.heap.size w { w with drawn:=w.drawn+1 }:=(Below.refl _ _).drew;obtain⟨cu,hE⟩:=E.below hb;have e0:σL (fun _=>false)=σ:=by
  rw[af];show (⟨Af _ _ _ _ _,Aw _ _ _ _ _⟩:AS)=σ;rw[Ew (m:=0) (aEl _) (fun _ _ _=>rfl),Ey (m:=0) (aEl _) (fun _ _ _=>rfl)];rfl
 rw[e0];exact⟨⟨ρ,cu,fun t s cr=>Slot.ok_mono s _ (ad t s cr) hE (fun _ _=>rfl)⟩,hz,ap⟩
section
variable {os:List Oper}{σ σ':AS}{its:List Itm4}{s s0:Slot}{d:Option Tmp}{pb:Option Nat}{ty:TypeId}{p:String}{af:Array Edge}{gd:Option (Nat×Bool)}{x y:Operand}
theorem JP4.store{T U:TypeId}{l:List Slot}{i off n:Nat}(g:GK ops σ.g ⟨none,.store U x y,ty,p,af,gd⟩ true)(hx:cK σ.g x=some (.ptr i off))(he:aW σ.d i=some (.box T l pb))(ho:mP l off=some s0)(hy:cK σ.g y=some s)(hp:s.plain=true)(hsz:Nat.beq s.sz n=true)(hsz0:Nat.beq s0.sz n=true)
  (hS:∀w,(sizeOf U).run F.P w= .ok n w) (k:JP4 F ops OK os ⟨σ.g,(i,.box T (nD l off s) pb)::σ.d⟩ its σ'):
  JP4 F ops OK (⟨none,.store U x y,ty,p,af,gd⟩::os) σ (⟨.top,[(i,.box T (nD l off s) pb)],[],Jm σ.g ⟨none,.store U x y,ty,p,af,gd⟩,[]⟩::its) σ':=
 .mv g rfl (fun σ2 h _=>Sl ((h.ev (by simp[Op.operands])).trans hx) ((h.ent (x:=x) (by simp[Op.operands]) hx (by simp[Slot.lab])).trans he) ho ((h.ev (by simp[Op.operands])).trans hy) hp hsz hsz0 hS) k
theorem JP4.storeAll{α:Type}{e:Enc α}{z:α}{T U:TypeId}{l l':List Slot}{i:Nat}(g:GK ops σ.g ⟨none,.store U x y,ty,p,af,gd⟩ true)(hx:cK σ.g x=some (.ptr i 0))(he:aW σ.d i=some (.box T l pb))(hl:Nat.beq (l.map Slot.sz).sum e.n=true)(hy:cK σ.g y=some (.v e z))(hl':Spl l' e z)
  (hS:∀w,(sizeOf U).run F.P w= .ok e.n w) (k:JP4 F ops OK os ⟨σ.g,(i,.box T l' pb)::σ.d⟩ its σ'):
  JP4 F ops OK (⟨none,.store U x y,ty,p,af,gd⟩::os) σ (⟨.top,[(i,.box T l' pb)],[],Jm σ.g ⟨none,.store U x y,ty,p,af,gd⟩,[]⟩::its) σ':=
 .mv g rfl (fun σ2 h _=>bI ((h.ev (by simp[Op.operands])).trans hx) ((h.ent (x:=x) (by simp[Op.operands]) hx (by simp[Slot.lab])).trans he) hl ((h.ev (by simp[Op.operands])).trans hy) hl' hS) k
theorem JP4.storeAgg{T U:TypeId}{l l':List Slot}{i n:Nat}(g:GK ops σ.g ⟨none,.store U x y,ty,p,af,gd⟩ true)(hx:cK σ.g x=some (.ptr i 0))(he:aW σ.d i=some (.box T l pb))(hl:(l.map Slot.sz).sum=n)(hy:cK σ.g y=some (.agg l'))(hl':(l'.map Slot.sz).sum=n)(hnt:l'.all Slot.plain=true)
  (hS:∀w,(sizeOf U).run F.P w= .ok n w) (k:JP4 F ops OK os ⟨σ.g,(i,.box T l' pb)::σ.d⟩ its σ'):
  JP4 F ops OK (⟨none,.store U x y,ty,p,af,gd⟩::os) σ (⟨.top,[(i,.box T l' pb)],[],Jm σ.g ⟨none,.store U x y,ty,p,af,gd⟩,[]⟩::its) σ':=
 .mv g rfl (fun σ2 h _=>Iv ((h.ev (by simp[Op.operands])).trans hx) ((h.ent (x:=x) (by simp[Op.operands]) hx (by simp[Slot.lab])).trans he) hl ((h.ev (by simp[Op.operands])).trans hy) hl' hnt hS) k
theorem Src.loc{α:Type}{e:Enc α}{ys:List α}{o:Oper}{σ2:AS}(h:Src σ y e ys)(hL:Loc ops o σ σ2)(hm:y∈o.op.operands):Src σ2 y e ys:=fun ρ S a w K=>
 h ρ S a w ⟨K.low,fun x u s z=>K.slot x u s (by
  have:x=y:=by simpa using u
  subst this;rw[hL.ev hm];exact z),fun x u s z i A B C=>K.ent x u s (by
   have:x=y:=by simpa using u
   subst this;rw[hL.ev hm];exact z) i A B (by
    have:x=y:=by simpa using u
    subst this;rw[hL.ent hm z A];exact C)⟩
theorem JP4.append{α:Type}{e:Enc α}{xs ys zs:List α}{T U:TypeId}{ti:TypeInfo}{z:Value}{i:Nat}(g:GK ops σ.g ⟨d,.call ⟨.builtin .append,#[x,y],#[U,U]⟩,ty,p,af,gd⟩ true)(j:Nat)(ha:app xs ys=some zs)(hx:cK σ.g x=some (.ref i))(he:aW σ.d i=some (.arr T e xs))(hy:Src σ y e ys)
  (hU:∀w,(underlying U).run F.P w= .ok (.slice T) w) (hI:∀w,(typeInfo T).run F.P w= .ok ti w) (hS:∀w,(sizeOf T).run F.P w= .ok e.n w) (hz:ti.zero=some z) (hzs:z.cells.size=e.n) (hby:Nat.ble ti.bytes 4096=true)
  (_:σ.free [(j,.arr T e zs)]=true) (hd:gA d F.N=true) (k:JP4 F ops OK os ⟨hX d (.ref j) σ.g,(j,.arr T e zs)::vE σ.d i⟩ its σ'):
  JP4 F ops OK (⟨d,.call ⟨.builtin .append,#[x,y],#[U,U]⟩,ty,p,af,gd⟩::os) σ (⟨.ref j,[(j,.arr T e zs)],[(j,.arr T e zs)],Jm σ.g ⟨d,.call ⟨.builtin .append,#[x,y],#[U,U]⟩,ty,p,af,gd⟩,[i]⟩::its) σ':=
 .mv (nw:=[(j,.arr T e zs)]) (dl:=[i]) g hd (fun σ2 h u=>bR j ha ((h.ev (by simp[Op.operands,Call.operands])).trans hx) ((h.ent (x:=x) (by simp[Op.operands,Call.operands]) hx (by simp[Slot.lab])).trans he) (hy.loc h (by simp[Op.operands,Call.operands])) hU hI hS hz hzs hby u hd) k
end
end
end Go.Sw
namespace Go.Sw
open Go Go.RowKit
section
variable {F:Frm}{σ:AS}{pb:Option Nat}{s:Slot}{d:Option Tmp}{ty:TypeId}{p:String}{af:Array Edge}{gd:Option (Nat×Bool)}{x y z:Operand}
theorem Res.cv{ρ:Nat->LV}{S:Nat->Prop}{w w':World}{v:Value}{s s':Slot}{new new':List (Nat×Ent)}(hlow:∀k,S k->k<w.heap.size)(h:Res ρ S w s new v w')
  (hsub:∀F:Frm,Sub F ⟨[(0,s)],new⟩ ⟨[(0,s')],new'⟩) (hcl:kJ s' new'=true):Res ρ S w s' new' v w':=by
 obtain⟨ρ',h1,C,h3,E⟩:=h;let H:Frm:=⟨default,1,S,w,fun _=>False,none,[]⟩
 have R:Core H new ρ' w':=⟨hlow,C.size,fun k V _=>C.block k V,C.os,C.tape,C.output,E.own,fun i u b B z=>⟨.inl (E.fresh i u b B z).1,(E.fresh i u b B z).2⟩,E.inj,
  fun i u b B z X=>by have:=hlow b X;have:=(E.fresh i u b B z).1;omega⟩
 let a:Act:=⟨#[v],[]⟩
 have T:St H ⟨[(0,s)],new⟩ a w':=⟨⟨ρ',R,fun t s1 D=>by
  simp only[lk] at D;cases z:Nat.beq 0 t with
  |true=>have:=aAb z;subst this;simp at D;subst D;exact h3
  |false=>rw[z] at D;cases D⟩,rfl,rfl⟩
 obtain⟨⟨ρ2,K,I⟩,_,_⟩:=hsub H a w' T;have I:s'.ok ρ2 (Un S ρ2 new') w' v:=I 0 s' rfl;simp only[kJ,aAr,aAh] at hcl;let ρ3:Nat->LV:=fun i=>if (aW new' i).isSome then ρ2 i else ρ i
 have A:∀i u,aW new' i=some u->ρ3 i=ρ2 i:=fun i u h=>aAn (by rw[h];rfl);have M:∀i,(aW new' i).isSome=true->ρ3 i=ρ2 i:=fun i h=>aAn h;have U:Un S ρ3 new'=Un S ρ2 new':=by
  funext k;apply propext;constructor
  ·rintro (h |⟨i,u,G,L⟩)
   ·exact .inl h
   ·exact .inr ⟨i,u,G,by rw[<-A i u G];exact L⟩
  ·rintro (h |⟨i,u,G,L⟩)
   ·exact .inl h
   ·exact .inr ⟨i,u,G,by rw[A i u G];exact L⟩
 have N:Ext (Un S ρ2 new') (Un S ρ3 new') w' w':=⟨aAi _,fun k _ h=>⟨rfl,by rw[U];exact h⟩⟩
 refine⟨ρ3,fun i h=>aAj (by rw[h];simp),C,Slot.ok_mono s' v I N (fun i B=>congrArg LV.v (M i (hcl.1 i B))),⟨fun i u h=>?_,fun i u b h z=>?_,fun i j u O b h P z Q=>?_⟩⟩
 ·rw[A i u h];exact Ent.ok_mono (K.own i u h) N (fun q hq=>congrArg LV.v (M q (hcl.2 _ (lR h) q hq))) (fun _ _=>rfl)
 ·rw[A i u h] at z;have:=K.fresh i u b h z;exact⟨this.1.resolve_right (fun h=>h),this.2⟩
 ·rw[A i u h] at z;rw[A j O P] at Q;exact K.inj i j u O b h P z Q
theorem Oo{o:Oper}{s s':Slot}{new new':List (Nat×Ent)}(h:JO F o σ s new)(hsub:∀F:Frm,Sub F ⟨[(0,s)],new⟩ ⟨[(0,s')],new'⟩)(hcl:kJ s' new'=true):JO F o σ s' new':=by
 intro ρ S a w K;exact(h ρ S a w K).mono fun v z u=>u.cv K.low hsub hcl
end
end Go.Sw
namespace Go.Sw
open Go Go.RowKit
section
variable {F:Frm}{σ:AS}{pb:Option Nat}{s:Slot}{d:Option Tmp}{ty:TypeId}{p:String}{af:Array Edge}{gd:Option (Nat×Bool)}{x y z:Operand}{α:Type}{e:Enc α}{T U:TypeId}{i:Nat}
theorem arrOk.sub{xs ys:List α}{lo hi:Int}{S:Nat->Prop}{w:World}{v:Value}{a:Option Addr}{cap:Nat}(hs:Sw.sub xs lo hi=some ys)(h:arrOk T e xs S w v)(hv:v= .slice a xs.length cap):
  arrOk T e ys S w (.slice (if cap=lo.toNat then a else a.map (·.add (lo.toNat*e.n))) (hi.toNat - lo.toNat) (cap - lo.toNat)):=by
 obtain⟨U,V,F,rfl⟩:=gG hs;rcases h with⟨rfl,rfl⟩|⟨b,z,A,u,B,rfl,G,H,X,h7,h8⟩
 ·simp only[Value.slice.injEq,aA9] at hv;obtain⟨rfl,_,rfl⟩:=hv;have:lo.toNat=0:=by simp at F;omega
  have:hi.toNat=0:=by simp at F;omega
  refine .inl ⟨by simp,?_⟩;simp[*]
 ·simp only[Value.slice.injEq,aEy] at hv;obtain⟨rfl,rfl⟩:=hv;have D:=cA H;obtain⟨l,O⟩:∃l,l=lo.toNat:=⟨_,rfl⟩
  obtain⟨m,P⟩:∃m,m=hi.toNat:=⟨_,rfl⟩
  rw[<-O,<-P];have I:l<=m:=by omega
  have K:m<=xs.length:=by omega
  have L:l*e.n<=m*e.n:=aBx _ I;have Q:m*e.n<=xs.length*e.n:=aBx _ K;have E:((xs.take m).drop l).length=m - l:=by rw[aA1,aAp];omega
  by_cases C:z=l
  ·rw[aAn C];have R:m - l=0:=by omega
   refine .inr ⟨b,z - l,A,[],u++B,by rw[E],by simpa using G,?_,by omega,?_,by omega⟩
   ·have:(xs.take m).drop l=[]:=aAu (by omega);rw[this];rfl
   ·rw[C,Nat.sub_self];simp
  ·rw[aAj C];refine .inr ⟨b,z - l,A++u.take (l*e.n),(u.take (m*e.n)).drop (l*e.n),u.drop (m*e.n)++B,?_,?_,uU _ (rR _ H),by omega,?_,by omega⟩
   ·rw[E];simp only[aBu,Addr.add_lit,sM,aAp,D];rw[aB2 (by omega)]
   ·rw[G];have:A++(u++B)=A++u.take (l*e.n)++((u.take (m*e.n)).drop (l*e.n)++(u.drop (m*e.n)++B)):=by
     have M:u=u.take (l*e.n)++((u.take (m*e.n)).drop (l*e.n)++u.drop (m*e.n)):=by
      have N:u.take (l*e.n)=(u.take (m*e.n)).take (l*e.n):=by rw[List.take_take,aB2 L]
      rw[<-aAm,N,aAt,aAt]
     conv=>lhs;rw[M]
     simp only[aAm]
    rw[this]
   ·simp only[sM,aA1,aAp,D];rw[aB2 (by omega)];have:(z - l)*e.n+l*e.n=z*e.n:=by rw[<-aBe];congr 1;omega
    omega
theorem Yx{ρ:Nat->LV}{a:Act}{w:World}{xs ys:List α}{lo hi:Int}{j:Nat}{ad:Option Addr}{cap:Nat}(hc:Core F σ.d ρ w)(hs:∀t s,lk σ.g t=some s->s.ok ρ (Un F.S0 ρ σ.d) w (a.tmps.getD t undef))(hz:a.tmps.size=F.N)(hde:a.defers=F.df)
  (hsub:Sw.sub xs lo hi=some ys) (he:aW σ.d i=some (.arr T e xs)) (hv:(ρ i).v= .slice ad xs.length cap) (hf:σ.free [(j,.arr T e ys)]=true) (hd:gA d F.N=true):
  St F ⟨hX d (.ref j) σ.g,(j,.arr T e ys)::vE σ.d i⟩ (a.put d (.slice (if cap=lo.toNat then ad else ad.map (·.add (lo.toNat*e.n))) (hi.toNat - lo.toNat) (cap - lo.toNat))) w:=by
 have A:arrOk T e xs (Un F.S0 ρ σ.d) w (ρ i).v:=hc.own i _ he;have E:=A.sub hsub hv;refine Yl (u:= .of _) hc hs hz hde he hf hd (Chg.refl _ _) (.inl ⟨_,_,_,rfl⟩) rfl (fun b G=>?_) (fun K ρ' H=>E.mono H fun _ _=>rfl);have B:pV (ρ i) b:=by
  left;rw[hv];have z:=nY.1 G;cases ad with
  |none=>simp[blk] at z
  |some q=>
   by_cases C:cap=lo.toNat
   ·rw[aAn C] at z;exact z
   ·rw[aAj C] at z;simp only[aBu,blk,aAk] at z ⊢;rw[<-z];have D:q.spot=none:=by
     rcases A with⟨_,h⟩|⟨I,O,P,Q,R,h,_⟩
     ·rw[hv] at h;cases h
     ·rw[hv] at h;simp only[Value.slice.injEq,aAk] at h;rw[h.1]
    obtain⟨I,L,M⟩:=q;simp only at D;subst D;rw[Addr.add_lit]
 exact⟨.inl B,(hc.fresh i _ b he B).2⟩
theorem JR{xs ys:List α}{hi:Int}{k':IntKind}{E:TypeId}(j:Nat)(hs:Sw.sub xs 0 hi=some ys)(hx:cK σ.g x=some (.ref i))(he:aW σ.d i=some (.arr T e xs))(hz:cK σ.g z=some (.v (Enc.int k') hi))
  (hU:∀w,(underlying U).run F.P w= .ok (.slice E) w) (hE:∀w,(sizeOf E).run F.P w= .ok e.n w) (hf:σ.free [(j,.arr T e ys)]=true) (hd:gA d F.N=true):JM F ⟨d,.slice U x none (some z) none,ty,p,af,gd⟩ σ ⟨hX d (.ref j) σ.g,(j,.arr T e ys)::vE σ.d i⟩:=by
 rintro a w ⟨⟨ρ,h,u⟩,G,H⟩;have K:=bT h u (Op.slice U x none (some z) none).operands;obtain⟨I,B,C,L,D,M⟩:=Ss K (x:=x) (by simp[Op.operands]) hx he;have A:=(fB K (x:=z) (by simp[Op.operands]) hz).1;obtain⟨O,s1,Q,_⟩:=gG hs;refine OpWp.value (w':=w) ?_ (Yx h u G H hs he D hf hd);simp[execOp,Instr.sliceAt,Instr.slice,C,A,hU,hE,Gb s1 (show hi<=(B:Int) by omega)]
theorem JS{xs ys:List α}{lo:Int}{k:IntKind}{E:TypeId}(j:Nat)(hs:Sw.sub xs lo (xs.length:Int)=some ys)(hx:cK σ.g x=some (.ref i))(he:aW σ.d i=some (.arr T e xs))(hy:cK σ.g y=some (.v (Enc.int k) lo))
  (hU:∀w,(underlying U).run F.P w= .ok (.slice E) w) (hE:∀w,(sizeOf E).run F.P w= .ok e.n w) (hf:σ.free [(j,.arr T e ys)]=true) (hd:gA d F.N=true):JM F ⟨d,.slice U x (some y) none none,ty,p,af,gd⟩ σ ⟨hX d (.ref j) σ.g,(j,.arr T e ys)::vE σ.d i⟩:=by
 rintro a w ⟨⟨ρ,h,u⟩,D,G⟩;have K:=bT h u (Op.slice U x (some y) none none).operands;obtain⟨H,I,A,L,B,M⟩:=Ss K (x:=x) (by simp[Op.operands]) hx he;have z:=(fB K (x:=y) (by simp[Op.operands]) hy).1;obtain⟨C,s1,O,_⟩:=gG hs;refine OpWp.value (w':=w) ?_ (Yx h u D G hs he B hf hd);simp[execOp,Instr.sliceAt,Instr.slice,A,z,hU,hE,Cf C s1]
theorem Dk{zc:Array Value}{zv:α}{S:Nat->Prop}{w:World}(h:e.ok zv S w zc.toList):∀(n:Nat) (L:List Value),L.length=n*e.n->(∀i,i<n*e.n->L[i]? =some zc[i % zc.size]!)->e.okL (List.replicate n zv) S w L
 | 0,L,u,_=>by simp at u;subst u;rfl
 |n+1,L,u,z=>by
  have B:zc.size=e.n:=by have:=e.len h;simpa using this
  rw[aBe,aCl] at u z;have C:L.take e.n=zc.toList:=by
   apply aCb;intro i;by_cases A:i<e.n
   ·rw[List.getElem?_take_of_lt A,z i (by omega),aA2 (by omega)];rw[getElem!_pos zc i (by omega)];simp[show i<zc.size by omega]
   ·rw[aAv (by rw[aAp];omega),aAv (by simp;omega)]
  refine⟨L.take e.n,L.drop e.n,(aAt _ _).symm,by rw[C];exact h,Dk h n _ (by rw[aA1];omega) fun i A=>?_⟩;rw[List.getElem?_drop,z _ (by omega),B,Nat.add_mod_left]
theorem Ag{zc:Array Value}{n i:Nat}(h:i<n*zc.size):(Builtin.zeroCells zc n).toList[i]? =some zc[i % zc.size]! :=by
 simp[Builtin.zeroCells,h]
theorem Wj{xs ys:List α}{lo:Int}{z0:Value}{zv:α}{E:TypeId}(hs:Sw.sub xs lo (xs.length:Int)=some ys)(hx:cK σ.g x=some (.sub i (lo.toNat*e.n) ((xs.length:Int).toNat - lo.toNat)))(he:aW σ.d i=some (.arr T e xs))
  (hU:∀w,(underlying U).run F.P w= .ok (.slice E) w) (hZ:∀w,(zeroValue E).run F.P w= .ok z0 w) (hz:∀S w,e.ok zv S w z0.cells.toList):
  JM F ⟨none,.call ⟨.builtin .clear,#[x],#[U]⟩,ty,p,af,gd⟩ σ ⟨σ.g,(i,.arr T e (xs.take lo.toNat++List.replicate (xs.length - lo.toNat) zv))::σ.d⟩:=by
 rintro a w ⟨⟨ρ,Q,R⟩,ad,ae⟩;have K:=bT Q R (Op.call ⟨.builtin .clear,#[x],#[U]⟩).operands;have X:=K.slot x (by simp[Op.operands,Call.operands]) _ hx;simp only[Slot.ok] at X;obtain⟨_,c,o,g1,N,H⟩:=X;have aa:arrOk T e xs (Un F.S0 ρ σ.d) w (ρ i).v:=(K.ent x (by simp[Op.operands,Call.operands]) _ hx i (by simp[Slot.lab]) _ he).1;obtain⟨s0,s1,_,_⟩:=gG hs;obtain⟨l,hl⟩:∃l,l=lo.toNat:=⟨_,rfl⟩
 simp only[aAf] at g1 N H;rw[<-hl] at g1 N H ⊢;have am:l<=xs.length:=by omega
 have done:∀w',(execOp a.eval ⟨none,.call ⟨.builtin .clear,#[x],#[U]⟩,ty,p,af,gd⟩).run F.P w= .ok (.value (.tuple #[])) w'->
   (∃b,pV (ρ i) b/\Upd b w w'/\(Ext (Un F.S0 ρ σ.d) (Un F.S0 ρ σ.d) w w'->(Ent.arr T e (xs.take l++List.replicate (xs.length - l) zv)).ok ρ (Un F.S0 ρ σ.d) w' (ρ i)))\/(w'=w/\xs.take l++List.replicate (xs.length - l) zv=xs)->
   OpWp F.P ⟨none,.call ⟨.builtin .clear,#[x],#[U]⟩,ty,p,af,gd⟩ a w fun v w'=>St F ⟨σ.g,(i,.arr T e (xs.take l++List.replicate (xs.length - l) zv))::σ.d⟩ (a.put none v) w':=by
  intro w' hr h;refine OpWp.value hr ?_;rcases h with⟨b,h1,V,D⟩|⟨rfl,V⟩
  ·obtain⟨q1,q2⟩:=Q.upd he h1 V D;exact⟨⟨ρ,q1,fun t s L=>Slot.ok_mono s _ (R t s L) q2 (fun _ _=>rfl)⟩,ad,ae⟩
  ·rw[V];refine St.congr (σ:=σ) (fun _=>rfl) (fun q=>?_) ⟨⟨ρ,Q,R⟩,ad,ae⟩;rw[bV];split
   ·rename_i h;subst h;exact he.symm
   ·rfl
 by_cases B:xs.length - l=0
 ·refine done w ?_ (.inr ⟨rfl,?_⟩)
  ·have A:∃q,a.eval x= .slice q 0 c:=by
    rw[H,B];rcases aa with⟨_,h⟩|⟨b,ah,u,z,post,h,_⟩<;>rw[h]<;>exact⟨_,rfl⟩
   obtain⟨q,A⟩:=A;have C:(Builtin.clear_ #[U] ty #[.slice q 0 c]).run F.P w= .ok (.tuple #[]) w:=by
    cases q<;>simp[Builtin.clear_,hU]
   simp[execOp,resolve,invoke,builtin,A,C]
  ·have:l=xs.length:=by omega
   rw[B,this];simp
 ·have ho:o=l*e.n:=N.resolve_right B;subst ho;rcases aa with⟨rfl,h⟩|⟨b,ah,u,z,post,D,h4,h5,h6,h7,h8⟩
  ·simp at B
  ·have C:=cA h5;have A:a.eval x= .slice (some ⟨b,u.length+l*e.n,none⟩) (xs.length - l) c:=by rw[H,D];rfl
   obtain⟨n,al⟩:∃n,n=xs.length - l:=⟨_,rfl⟩
   rw[<-al] at A B done ⊢;have ab:z0.cells.size=e.n:=by have:=e.len (hz (fun _=>False) w);simpa using this
   obtain⟨news,O⟩:∃news,news=(Builtin.zeroCells z0.cells n).toList:=⟨_,rfl⟩
   have G:news.length=n*e.n:=by rw[O,aA3,size_zeroCells,ab]
   have ac:∀S w,e.okL (List.replicate n zv) S w news:=fun S w=>Dk (hz S w) n news G fun i hi=>by rw[O];exact Ag (by rw[ab];exact hi)
   have ai:=qK (ac (fun _=>False) w);have an:l*e.n+n*e.n=z.length:=by rw[C,<-aBe];congr 1;omega
   have e1:u++(z++post)=(u++z.take (l*e.n))++(z.drop (l*e.n)++post):=by
    rw[aAm,<-aAm (z.take _),aAt]
   have aj:u.length+l*e.n+news.length<=(u++(z++post)).length:=by simp only[sM,G];omega
   have I:=run_storeCells_at F.P b (u.length+l*e.n) T news 0 (u++(z++post)).toArray w h4 (by simpa using aj) ai;have L:(u++(z++post)).take (u.length+l*e.n)=u++z.take (l*e.n):=by
    have M:(u++z.take (l*e.n)).length=u.length+l*e.n:=by rw[sM,aAp];omega
    rw[e1,<-M];exact aCn
   have ak:(u++(z++post)).drop (u.length+l*e.n+news.length)=post:=by
    have M:(u++z).length=u.length+l*e.n+news.length:=by rw[sM,G];omega
    rw[<-aAm,<-M];exact aB5
   simp only[aDh,List.toList_toArray] at I;rw[L,ak] at I;refine done (w.setRow b (u++z.take (l*e.n)++news++post).toArray) ?_ (.inl ⟨b,.inl (by rw[D];rfl),Upd.setRow w b _,fun hE=> .inr ⟨b,ah,u,z.take (l*e.n)++news,post,?_,?_,fU (Enc.okL_mono (rR l h5) hE) (ac _ _),?_,?_,?_⟩⟩)
   ·have C:(Builtin.clear_ #[U] ty #[.slice (some ⟨b,u.length+l*e.n,none⟩) n c]).run F.P w= .ok (.tuple #[]) (w.setRow b (u++z.take (l*e.n)++news++post).toArray):=by
     obtain⟨n',rfl⟩:∃n',n=n'+1:=⟨n - 1,by omega⟩
     simp[Builtin.clear_,hU,hZ,<-O,I]
    simp[execOp,resolve,invoke,builtin,A,C]
   ·rw[D];simp only[sM,aAp,aBi];congr 1;omega
   ·have:=setRow_heap w b _ (u++z.take (l*e.n)++news++post).toArray T _ h4;rw[this];congr 3;simp
   ·simp only[sM,aAp,aBi];omega
   ·simp only[sM,aAp,G];rw[aB2 (by omega)];omega
   ·simp only[sM,aAp,aBi];omega
end
end Go.Sw
namespace Go.Sw
open Go Go.RowKit
def Enc.ptN{α:Type}(e:Enc α):Enc (Option α) where
 n:=1
 agg:=false
 ok x S w cs:=match x with
  |none=>cs=[.pointer none]
  |some z=>∃b u A,cs=[.pointer (some ⟨b,u,none⟩)]/\b<w.heap.size/\¬S b/\MemAt w b u A/\e.ok z S w A
 len {x _ _ _} h:=by
  cases x with
  |none=>rw[h];rfl
  |some z=>obtain⟨_,_,_,h,_⟩:=h;rw[h];rfl
 one _:=rfl
 cell {x _ _ _} h c hc:=by
  cases x with
  |none=>rw[h] at hc;simp at hc;subst hc;rfl
  |some z=>obtain⟨_,_,_,h,_⟩:=h;rw[h] at hc;simp at hc;subst hc;rfl
 mono {x _ _ _ _ _} h k:=by
  cases x with
  |none=>exact h
  |some z=>
   obtain⟨b,u,A,D,B,C,E,F⟩:=h;exact⟨b,u,A,D,aAy B k.size,(k.keep b B C).2,E.mono B C k,e.mono F k⟩
theorem Gj{α:Type}{e:Enc α}{S w u}:(Enc.ptN e).val none S w u↔u= .pointer none:=by
 constructor
 ·rintro⟨z,h,rfl⟩;simp only[Enc.ptN] at h;subst h;rfl
 ·rintro rfl;exact⟨[.pointer none],rfl,rfl⟩
theorem Ah{α:Type}{e:Enc α}{z:α}{S w u}:(Enc.ptN e).val (some z) S w u↔∃b off ds,u= .pointer (some ⟨b,off,none⟩)/\b<w.heap.size/\¬S b/\MemAt w b off ds/\e.ok z S w ds:=by
 constructor
 ·rintro⟨A,⟨b,off,ds,rfl,h⟩,rfl⟩;exact⟨b,off,ds,rfl,h⟩
 ·rintro⟨b,off,ds,rfl,h⟩;exact⟨[.pointer (some ⟨b,off,none⟩)],⟨b,off,ds,rfl,h⟩,rfl⟩
section
variable {F:Frm}{σ:AS}{pb:Option Nat}{s:Slot}{d:Option Tmp}{ty:TypeId}{p:String}{af:Array Edge}{gd:Option (Nat×Bool)}{x y z:Operand}{α:Type}{e:Enc α}
theorem Z.ptN(e:Enc α):∀S w,(Enc.ptN e).ok none S w [.pointer none]:=fun _ _=>rfl
theorem JT{v:α}{ρ S w u}(h:(Slot.pst e v).ok ρ S w u):(Slot.v (Enc.ptN e) (some v)).ok ρ S w u:=by
 simp only[Slot.ok] at h ⊢;exact Ah.2 h
theorem Yy{o:Oper}{v:α}{new:List (Nat×Ent)}(h:JO F o σ (.pst e v) new):JO F o σ (.v (Enc.ptN e) (some v)) new:=by
 intro ρ S a w K;refine(h ρ S a w K).mono ?_;rintro u D ⟨ρ',z,A,B,C⟩;exact⟨ρ',z,A,JT B,C⟩
theorem jI(e:Enc α):JO F ⟨d,.assign (.const (.pointer none)),ty,p,af,gd⟩ σ (.v (Enc.ptN e) none) []:=by
 intro ρ S a w K;exact OpWp.value (w':=w) (v:= .pointer none) (by simp[execOp,Act.eval]) (Res.same (by simp only[Slot.ok];exact Gj.2 rfl))
theorem Hu{v:Option α}{v':α}(hv:v=some v')(hx:cK σ.g x=some (.v (Enc.ptN e) v)):JO F ⟨d,.nilCheck x,ty,p,af,gd⟩ σ (.pst e v') []:=by
 subst hv;intro ρ S a w K;have h:=K.slot x (by simp[Op.operands]) _ hx;simp only[Slot.ok] at h;obtain⟨b,z,A,u,B⟩:=Ah.1 h;refine OpWp.value (w':=w) (v:=a.eval x) ?_ (Res.same (by simp only[Slot.ok];exact⟨b,z,A,u,B⟩));simp[execOp,u]
theorem Gk{P:Program}(w:World)(T E:TypeId)(ad:Option Addr)(hT:∀w,(underlying T).run P w= .ok (.pointer E) w):(Op.equal T (.pointer ad) (.pointer none)).run P w= .ok ad.isNone w:=by
 unfold Op.equal Op.maxDepth Op.equalIn;cases ad<;>simp[hT]
theorem JU{v:Option α}{T T' E:TypeId}(hx:cK σ.g x=some (.v (Enc.ptN e) v))(hT:∀w,(underlying T).run F.P w= .ok (.pointer E) w):JO F ⟨d,.binOp .neq T x (.const (.pointer none)) T',ty,p,af,gd⟩ σ (.v Enc.bool v.isSome) []:=by
 intro ρ S a w K;have h:=K.slot x (by simp[Op.operands]) _ hx;simp only[Slot.ok] at h;obtain⟨u,A,C⟩:∃u,a.eval x= .pointer u/\(!u.isNone)=v.isSome:=by
  cases v with
  |none=>exact⟨none,Gj.1 h,rfl⟩
  |some z=>obtain⟨b,D,G,A,_⟩:=Ah.1 h;exact⟨_,A,rfl⟩
 have B:=Gk (P:=F.P) w T E u hT;refine OpWp.value (w':=w) (v:= .bool v.isSome) ?_ (Res.same (mS _ ρ S w));rw[<-C];exact Vx (r:=u.isNone) (.inr ⟨rfl,rfl⟩) A rfl (by intros;simp) (by intros;simp) (by intros;simp) (by intros;simp) (by simp[eqGuard,Act.eval]) B
theorem JV{zs:List α}{v:α}{U E:TypeId}{len:Nat}{k:IntKind}{n:Int}(hz:Sw.idx zs n=some v)(hx:cK σ.g x=some (.v (Enc.arr len e) zs))(hy:cK σ.g y=some (.v (Enc.int k) n))
  (hU:∀w,(underlying U).run F.P w= .ok (.array len E) w) (hE:∀w,(sizeOf E).run F.P w= .ok e.n w) (hA:∀w,(isAgg E).run F.P w= .ok e.agg w):JO F ⟨d,.index U x y,ty,p,af,gd⟩ σ (.v e v) []:=by
 intro ρ S a w K;have h:=K.slot x (by simp[Op.operands]) _ hx;simp only[Slot.ok] at h;obtain⟨N,⟨O,G⟩,H⟩:=h;have B:=(fB K (x:=y) (by simp[Op.operands]) hy).1;obtain⟨I,Q,L⟩:=cX hz;obtain⟨z,c,b,rfl,M,A,_⟩:=pW G L;have u:=EV (P:=F.P) (w:=w) (U:=E) (a:=z) (c:=c) (e:=b) hA hE (e.len A) e.one;refine OpWp.value (w':=w) (v:=e.pk c) ?_ (Res.same (by simp only[Slot.ok];exact⟨c,A,rfl⟩));have C:0<=n/\n<(len:Int):=⟨I,by omega⟩
 rw[M] at u;have D:a.eval x= .agg (z++(c++b)).toArray:=H;simp only[execOp,D,B,Instr.index];simp[asIntOf,hU,C,hE,u,Enc.pk]
theorem Elems.specT{k:Nat}{ps:List (Nat×Operand)}{zs:List α}(h:Elems σ e k ps zs){ρ S a w}{ys:Array Operand}(hys:∀x∈ps.map (·.2),x∈ys)(K:Know σ ys ρ S a w):
  ∀pre rest tl:List Value,pre.length=k*e.n->rest.length=ps.length*e.n->∃ds:List Value,Instr.fill (fun i=>some (i*e.n,e.n)) (pre++(rest++tl)).toArray (ps.map fun q=>(q.1,a.eval q.2))=some (pre++(ds++tl)).toArray/\e.okL zs S w ds:=by
 induction h with
 |nil=>intro pre rest tl D E;simp at E;subst E;exact⟨[],rfl,rfl⟩
 |cons D _ L=>
  rename_i k x z ps zs _;intro pre rest tl F G
  have C:=D ρ S a w ⟨K.low,fun y u s h=>K.slot y (hys y (by
   have:y=x:=by simpa using u
   subst this;simp)) s h,fun y u s h=>K.ent y (hys y (by
    have:y=x:=by simpa using u
    subst this;simp)) s h⟩
  simp only[aAw,aA4] at C;have A:=pY (s:= .v e z) rfl C;simp only[Slot.okc] at A;have B:=e.len A;simp only[aAq,aBe,aCl] at G;obtain⟨ds,H,I⟩:=L (fun y u=>hys y (by simp only[aAx,aAo];exact .inr u)) (pre++(a.eval x).cells.toList) (rest.drop e.n) tl (by rw[sM,F,B,aBe,aCl]) (by rw[aA1];omega);refine⟨(a.eval x).cells.toList++ds,?_,⟨_,_,rfl,A,I⟩⟩;rw[aAx,Dd (a:=pre) (c:=rest.take e.n) (e:=rest.drop e.n++tl) rfl (by simp only[aA3] at B;exact B) (by simp only[List.toList_toArray];rw[<-aAm (rest.take _),aAt]) F (by rw[aAp];omega)];simpa[aAm] using H
theorem Lf{T E:TypeId}{n:Nat}{ti tE:TypeInfo}{z:Value}{zv:α}{ps:List (Nat×Operand)}{zs:List α}(hI:∀w,(typeInfo T).run F.P w= .ok ti w)(hU:∀w,(underlying T).run F.P w= .ok (.array n E) w)(hE:∀w,(typeInfo E).run F.P w= .ok tE w)(hs:tE.size=e.n)(hz:ti.zero=some z)
  (hzv:∀S w,(Enc.arr n e).ok (List.replicate n zv) S w z.cells.toList) (hl:ps.length=zs.length) (hle:Nat.ble zs.length n=true) (he:Elems σ e 0 ps zs):JO F ⟨d,.build T ps.toArray,ty,p,af,gd⟩ σ (.v (Enc.arr n e) (zs++List.replicate (n - zs.length) zv)) []:=by
 intro ρ S a w K;have hle:=aAd hle;obtain⟨L,u⟩:=hzv S w;have C:=cA u;simp only[aBi] at C;have I:zs.length*e.n<=n*e.n:=aBx _ hle;obtain⟨A,B,H⟩:=he.specT (ys:=(Op.build T ps.toArray).operands) (by intro x h;simp[Op.operands] at h ⊢;exact h) K [] (z.cells.toList.take (zs.length*e.n)) (z.cells.toList.drop (zs.length*e.n)) (by simp) (by rw[aAp,hl];omega);rw[aAt] at B;have D:e.okL (List.replicate (n - zs.length) zv) S w (z.cells.toList.drop (zs.length*e.n)):=by
  have:=uU zs.length u
  rwa [List.drop_replicate] at this
 refine OpWp.value (w':=w) (v:= .agg (A++z.cells.toList.drop (zs.length*e.n)).toArray) ?_ (Res.same (by simp only[Slot.ok];exact⟨_,⟨by simp only[sM,aBi];omega,fU H D⟩,rfl⟩));have G:F.P.built T (ps.map fun q=>(q.1,a.eval q.2))=some (A++z.cells.toList.drop (zs.length*e.n)).toArray:=by
  unfold Program.built;rw[sY hI,qA hU];simp only[hz,sY hE,hs];simpa using B
 have:=run_build (P:=F.P) w T (ps.map fun q=>(q.1,a.eval q.2)).toArray _ (by simpa using G);simp only[execOp,aDc];simp[this]
end
end Go.Sw
namespace Go.Sw
open Go Go.RowKit
inductive Seg (α:Type) where
 |rows (xs:List α)
 |any (n:Nat)
def Seg.ok{α:Type}(e:Enc α)(S:Nat->Prop)(w:World):Seg α->List Value->Prop
 | .rows xs,h=>e.okL xs S w h
 | .any n,h=>h.length=n
def Seg.okL{α:Type}(e:Enc α)(S:Nat->Prop)(w:World):List (Seg α)->List Value->Prop
 | [],h=>h=[]
 |s::r,h=>∃c d,h=c++d/\s.ok e S w c/\Seg.okL e S w r d
section
variable {α:Type}{e:Enc α}{S S':Nat->Prop}{w w':World}
theorem Seg.ok_mono{s:Seg α}{cs}(h:s.ok e S w cs)(k:Ext S S' w w'):s.ok e S' w' cs:=by
 cases s with
 |rows xs=>exact Enc.okL_mono h k
 |any n=>exact h
theorem Seg.okL_mono:∀{q:List (Seg α)} {cs},Seg.okL e S w q cs->Ext S S' w w'->Seg.okL e S' w' q cs
 | [],_,h,_=>h
 |_::_,_,⟨c,d,u,z,A⟩,k=>⟨c,d,u,Seg.ok_mono z k,Seg.okL_mono A k⟩
end
def DE.seg{α:Type}(T:TypeId)(e:Enc α)(b:Nat):DE (List (Seg α)) where
 ok q S w u _:=u.v= .pointer (some ⟨b,0,none⟩)/\∃h,w.heap[b]? =some (.cells h.toArray T (0,0))/\Seg.okL e S w q h
 mono:=by
  rintro q S E w F u l ⟨z,h,A,B⟩ C D;exact⟨z,h,by rw[D b (.inl (by rw[z];rfl))];exact A,Seg.okL_mono B C⟩
section
variable {F:Frm}{σ:AS}{pb:Option Nat}{s:Slot}{d:Option Tmp}{ty:TypeId}{p:String}{af:Array Edge}{gd:Option (Nat×Bool)}{x y z:Operand}{α:Type}{e:Enc α}{T U:TypeId}{i b:Nat}
theorem Oq{cs:List Code}{Q:Exit->Act->World->Prop}{t:Nat}{g':List (Nat×Slot)}{A B:List α}(hσ:σ.d=[(i,.arr T e (A++B))])(hB:B≠ [])(hx:lk σ.g t=some (.ref i))(hg:SubS σ.g g')(hl:g'.all (fun y=>y.2.lab.isEmpty)=true)
  (k:∀b p q c,(A++B).length<=c->c*e.n<=(A++B).length*e.n+q->(A++B).length<=140737488355328->
   W F cs ⟨(t,.asl i p 0 (A++B).length c)::g',[(i,.dp (DE.seg T e b) [.any p,.rows A,.rows B,.any q] [])]⟩ Q):W F cs σ Q:=by
 obtain⟨g,dd⟩:=σ;simp only at hσ hx hg;subst hσ;rintro a w ⟨⟨ρ,N,O⟩,hz,ab⟩;have L:aW [(i,Ent.arr T e (A++B))] i=some (.arr T e (A++B)):=by simp[aW]
 have S:arrOk T e (A++B) (Un F.S0 ρ [(i,.arr T e (A++B))]) w (ρ i).v:=N.own i _ L;rcases S with⟨h,_⟩|⟨b,ac,K,af,G,P,h2,R,h4,h5,h6⟩
 ·simp at h;exact absurd h.2 hB
 have ad:=cA R;refine k b K.length G.length ac h4 (by omega) h6 a w ?_;let ρ':Nat->LV:=fun l=>if l=i then .of (.pointer (some ⟨b,0,none⟩)) else ρ l
 have H:ρ' i= .of (.pointer (some ⟨b,0,none⟩)):=aAn rfl;have I:∀l z,aW [(i,Ent.dp (DE.seg T e b) [.any K.length,.rows A,.rows B,.any G.length] [])] l=some z->l=i:=by
  intro l z h;rw[bV] at h;split at h
  ·rename_i C;exact C.symm
  ·cases h
 have ae:∀l z,aW [(i,Ent.arr T e (A++B))] l=some z->l=i:=by
  intro l z h;rw[bV] at h;split at h
  ·rename_i C;exact C.symm
  ·cases h
 have U:∀k,pV (ρ' i) k->pV (ρ i) k:=by
  intro k D;rw[H] at D;have:=nY.1 D;left;rw[P];exact this
 obtain⟨q1,q2⟩:=N.regroup (d':=[(i,.dp (DE.seg T e b) [.any K.length,.rows A,.rows B,.any G.length] [])]) (ρ':=ρ') (fun l z bb h D=>by
   have V:=I l z h;rw[V] at D
   exact⟨i,_,L,U bb D⟩) (fun l l' z aa k h h' _ _=>by rw[I l z h,I l' aa h']) (fun hE l z h=>by
   obtain rfl:=I l z h;simp only[aW,aC3,aAe,aAk] at h;subst h;rw[H];obtain⟨ca,cb,rfl,k1,k2⟩:=yD (Enc.okL_mono R hE)
   exact⟨rfl,_,h2,K,_,rfl,rfl,ca,_,by rw[aAm],k1,cb,G,rfl,k2,G,[],by simp,rfl,rfl⟩)
 refine⟨⟨ρ',q1,fun u s E=>?_⟩,hz,ab⟩;rw[lK] at E;split at E
 ·rename_i C;subst C;cases E;have:=O t _ hx;simp only[Slot.ok] at this ⊢;refine⟨⟨b,by rw[H];rfl⟩,?_⟩;rw[this.2,P,H];rfl
 ·have X:=hg.spec u s E;refine Slot.ok_mono s _ (O u s X) q2 fun l M=>?_;have:=aAh.1 hl _ (Kn E);have:s.lab=[]:=by simpa using this
  rw[this] at M;cases M
theorem Ai{t p n c q:Nat}{A V B:List α}(hn:n=(A++(V++B)).length)(hnc:n<=c)(hcq:c*e.n<=n*e.n+q)(hsz:n<=140737488355328){g:List (Nat×Slot)}(hx:lk g t=some (.asl i p 0 n c)):
  Sub F ⟨g,[(i,.dp (DE.seg T e b) [.any p,.rows A,.rows V,.rows B,.any q] [])]⟩ ⟨[(t,.ref i)],[(i,.arr T e (A++(V++B)))]⟩:=by
 rintro a w ⟨⟨ρ,hc,hs⟩,hz,ad⟩;have P:aW [(i,Ent.dp (DE.seg T e b) [.any p,.rows A,.rows V,.rows B,.any q] [])] i=some (.dp (DE.seg T e b) [.any p,.rows A,.rows V,.rows B,.any q] []):=by simp[aW]
 obtain⟨E,cs,I,K⟩:=hc.own i _ P;obtain⟨M,_,rfl,rfl,N,_,rfl,U,cv,_,rfl,X,O,_,rfl,k3,ac,_,rfl,rfl,rfl⟩:=K;let ρ':Nat->LV:=fun l=>if l=i then .of (.slice (some ⟨b,M.length,none⟩) n c) else ρ l
 have C:ρ' i= .of (.slice (some ⟨b,M.length,none⟩) n c):=aAn rfl;have D:∀l z,aW [(i,Ent.arr T e (A++(V++B)))] l=some z->l=i:=by
  intro l z h;rw[bV] at h;split at h
  ·rename_i H;exact H.symm
  ·cases h
 have Q:∀{S w},e.okL A S w N->e.okL V S w cv->e.okL B S w O->e.okL (A++(V++B)) S w (N++(cv++O)):=fun E I K=>fU E (fU I K);have aa:=cA (Q U X k3)
 obtain⟨q1,q2⟩:=hc.regroup (d':=[(i,.arr T e (A++(V++B)))]) (ρ':=ρ') (fun l z k h R=>by
   obtain rfl:=D l z h;refine⟨l,_,P,?_⟩;rw[C] at R;have:=nY.1 R
   left;rw[E];exact this) (fun l l' z ab k h h' _ _=>by rw[D l z h,D l' ab h']) (fun L l z h=>by
   obtain rfl:=D l z h;simp only[aW,aC3,aAe,aAk] at h;subst h;rw[C];refine .inr ⟨b,c,M,N++(cv++O),ac,by rw[hn];rfl,?_,Q (Enc.okL_mono U L) (Enc.okL_mono X L) (Enc.okL_mono k3 L),by omega,?_,by omega⟩
   ·rw[I];simp[aAm]
   ·rw[aa,<-hn];exact hcq)
 refine⟨⟨ρ',q1,fun u s G=>?_⟩,hz,ad⟩;rw[lK] at G;split at G
 ·rename_i H;subst H;cases G;have:=hs t _ hx;simp only[Slot.ok] at this ⊢;refine⟨.inl ⟨_,_,_,by rw[C];rfl⟩,?_⟩;rw[this.2,E,C];rfl
 ·cases G
theorem qQ{ρ:Nat->LV}{S:Nat->Prop}{w:World}{o n c:Nat}{v:Value}(h:(Slot.asl i o 0 n c).ok ρ S w v):∃b,(ρ i).v= .pointer (some ⟨b,0,none⟩)/\v= .slice (some ⟨b,o,none⟩) n c:=by
 simp only[Slot.ok] at h;obtain⟨⟨b,u⟩,z⟩:=h;exact⟨b,u,by rw[z,u];rfl⟩
theorem Lg{ρ:Nat->LV}{S:Nat->Prop}{w:World}{o n c b:Nat}(h:(ρ i).v= .pointer (some ⟨b,0,none⟩)):(Slot.asl i o 0 n c).ok ρ S w (.slice (some ⟨b,o,none⟩) n c):=by
 simp only[Slot.ok];exact⟨⟨b,h⟩,by rw[h];rfl⟩
theorem yW{o n c m:Nat}{lo:Int}{k:IntKind}{E:TypeId}(o' n' c':Nat)(hlo:lo=(m:Int))(hm:m<=n)(hmc:m<c)(ho:o'=o+m*e.n)(hn':n'=n - m)(hc':c'=c - m)(hx:cK σ.g x=some (.asl i o 0 n c))(hy:cK σ.g y=some (.v (Enc.int k) lo))
  (hU:∀w,(underlying U).run F.P w= .ok (.slice E) w) (hE:∀w,(sizeOf E).run F.P w= .ok e.n w):JO F ⟨d,.slice U x (some y) none none,ty,p,af,gd⟩ σ (.asl i o' 0 n' c') []:=by
 subst hlo ho hn' hc';intro ρ S a w K;obtain⟨b,A,B⟩:=qQ (K.slot x (by simp[Op.operands]) _ hx);have h:=(fB K (x:=y) (by simp[Op.operands]) hy).1;refine OpWp.value (w':=w) ?_ (Res.same (Lg A));have u:=Cf (P:=F.P) (w:=w) (len:=n) (cap:=c) (k:=k) (lo:=(m:Int)) (by omega) (by omega);have z:¬(c=m):=by omega
 simp[execOp,Instr.sliceAt,Instr.slice,B,h,hU,hE,u,z,Addr.add_lit]
theorem Dl{o n c m:Nat}{hi:Int}{k:IntKind}{E:TypeId}(n':Nat)(hhi:hi=(m:Int))(hm:m<=c)(hn':n'=m)(hx:cK σ.g x=some (.asl i o 0 n c))(hy:cK σ.g y=some (.v (Enc.int k) hi))
  (hU:∀w,(underlying U).run F.P w= .ok (.slice E) w) (hE:∀w,(sizeOf E).run F.P w= .ok e.n w):JO F ⟨d,.slice U x none (some y) none,ty,p,af,gd⟩ σ (.asl i o 0 n' c) []:=by
 subst hhi hn';intro ρ S a w K;obtain⟨b,A,B⟩:=qQ (K.slot x (by simp[Op.operands]) _ hx);have h:=(fB K (x:=y) (by simp[Op.operands]) hy).1;refine OpWp.value (w':=w) ?_ (Res.same (Lg A));have u:=Gb (P:=F.P) (w:=w) (len:=n) (cap:=c) (k':=k) (hi:=(n':Int)) (by omega) (by omega);have z:Addr.add ⟨b,o,none⟩ 0=⟨b,o,none⟩:=by rw[Addr.add_lit];rfl
 simp[execOp,Instr.sliceAt,Instr.slice,B,h,hU,hE,u,z]
theorem Sv{ρ:Nat->LV}{w:World}{q:List (Seg α)}(hc:Core F σ.d ρ w)(he:aW σ.d i=some (.dp (DE.seg T e b) q [])):(ρ i).v= .pointer (some ⟨b,0,none⟩)/\∃cs,w.heap[b]? =some (.cells cs.toArray T (0,0))/\Seg.okL e (Un F.S0 ρ σ.d) w q cs:=hc.own i _ he
theorem Ot{ρ:Nat->LV}{a:Act}{w:World}{q q':List (Seg α)}{k:Nat}{c0 c1 c2 news:List Value}(hc:Core F σ.d ρ w)(hs:∀t s,lk σ.g t=some s->s.ok ρ (Un F.S0 ρ σ.d) w (a.tmps.getD t undef))(hz:a.tmps.size=F.N)(hde:a.defers=F.df)
  (he:aW σ.d i=some (.dp (DE.seg T e b) q [])) (hd:gA d F.N=true) (hb:w.heap[b]? =some (.cells (c0++(c1++c2)).toArray T (0,0))) (hk:k<=9223372036854775807)
  (hq:∀w',Ext (Un F.S0 ρ σ.d) (Un F.S0 ρ σ.d) w w'->Seg.okL e (Un F.S0 ρ σ.d) w' q' (c0++(news++c2))):
  St F ⟨hX d (.v (Enc.int .i64) ((k:Nat):Int)) σ.g,(i,.dp (DE.seg T e b) q' [])::σ.d⟩ (a.put d (.int .i64 (k:Int))) (w.setRow b (c0++(news++c2)).toArray):=by
 have z:=(Sv hc he).1;have C:=Upd.setRow w b (c0++(news++c2)).toArray;obtain⟨G,H⟩:=hc.upd (en':= .dp (DE.seg T e b) q' []) he (.inl (by rw[z];rfl)) C (fun E=>⟨z,_,setRow_heap w b _ (c0++(news++c2)).toArray T _ hb,hq _ E⟩);refine⟨⟨ρ,G,fun t s h=>?_⟩,by rw[kG,hz],by cases d<;>exact hde⟩;have A:∀t s,lk σ.g t=some s->s.ok ρ (Un F.S0 ρ ((i,.dp (DE.seg T e b) q' [])::σ.d)) (w.setRow b (c0++(news++c2)).toArray) (a.tmps.getD t undef):=fun t s h=>Slot.ok_mono s _ (hs t s h) H (fun _ _=>rfl);cases d with
 |none=>exact A t s h
 |some B=>
  simp only[hX] at h;have D:B<a.tmps.size:=by rw[hz];exact aAd hd
  rw[kH a B _ t D];rw[lK] at h;split at h
  ·rename_i u;cases h;rw[aAn u];exact sE (Cd hk) _ _ _
  ·rename_i u;rw[aAj u];exact A t s h
theorem Ez{P:Program}{w:World}{U E tt:TypeId}{en b o n c m cap:Nat}{ad:Option Addr}{c0 c1 c2 news:List Value}(hU:∀w,(underlying U).run P w= .ok (.slice E) w)(hE:∀w,(sizeOf E).run P w= .ok en w)
  (hb:w.heap[b]? =some (.cells (c0++(c1++c2)).toArray T (0,0))) (h0:c0.length=o) (h1:c1.length=news.length) (hn:news.length=min m n*en) (hnews:∀ad0,ad=some ad0->∀j u,news[j]? =some u->w.cell? (ad0.add j)=some u) (hnil:ad=none->news=[]) (hone:∀v∈news,v.oneCell'=true):
  (Builtin.copy_ #[U,U] tt #[.slice (some ⟨b,o,none⟩) n c,.slice ad m cap]).run P w= .ok (.int .i64 ((min m n:Nat):Int)) (w.setRow b (c0++(news++c2)).toArray):=by
 have z:(Builtin.firstCells en (min m n) (.slice ad m cap)).run P w= .ok news.toArray w:=by
  cases had:ad with
  |none=>rw[hnil had];simp[Builtin.firstCells]
  |some ad0=>exact run_firstCells_some (P:=P) w en (min m n) ad0 m cap news hn (hnews ad0 had)
 have A:o+news.length<=(c0++(c1++c2)).length:=by simp only[sM];omega
 have h:=run_storeCells_at P b o T news 0 (c0++(c1++c2)).toArray w hb (by simpa using A) hone;have B:(c0++(c1++c2)).take o=c0:=by rw[<-h0];exact aCn
 have GS:(c0++(c1++c2)).drop (o+news.length)=c2:=by
  rw[<-h0,<-h1,<-aAm,<-sM];exact aB5
 simp only[aDh] at h;rw[B,GS,aAm] at h;simp only[Builtin.copy_];have C:Nat.min m n=min m n:=rfl;simp[hU,hE,Builtin.lenOf,C,z,h,goInt]
theorem Kc{xs:List α}{S w cs}(h:e.okL xs S w cs):∀v∈cs,v.oneCell'=true:=qK h
theorem Sx{q m pp n1 c1 n2 c2 o1 o2:Nat}{A B:List α}{E:TypeId}(he:aW σ.d i=some (.dp (DE.seg T e b) [.any pp,.rows A,.rows B,.any q] []))(hx:cK σ.g x=some (.asl i o1 0 n1 c1))(hy:cK σ.g y=some (.asl i o2 0 n2 c2))
  (ho1:o1=pp+(A.length+m)*e.n) (ho2:o2=pp+A.length*e.n) (hn1:n1=B.length) (hn2:n2=B.length+m) (hq:m*e.n<=q) (hBl:B.length<=9223372036854775807)
  (hU:∀w,(underlying U).run F.P w= .ok (.slice E) w) (hE:∀w,(sizeOf E).run F.P w= .ok e.n w) (hd:gA d F.N=true):
  JM F ⟨d,.call ⟨.builtin .copy,#[x,y],#[U,U]⟩,ty,p,af,gd⟩ σ ⟨hX d (.v (Enc.int .i64) ((B.length:Nat):Int)) σ.g,(i,.dp (DE.seg T e b) [.any pp,.rows A,.any (m*e.n),.rows B,.any (q - m*e.n)] [])::σ.d⟩:=by
 subst ho1 ho2 hn1 hn2;rintro a w ⟨⟨ρ,O,hs⟩,ae,ah⟩;have K:=bT O hs (Op.call ⟨.builtin .copy,#[x,y],#[U,U]⟩).operands;obtain⟨b1,g1,g2⟩:=qQ (K.slot x (by simp[Op.operands,Call.operands]) _ hx);obtain⟨b2,g3,g4⟩:=qQ (K.slot y (by simp[Op.operands,Call.operands]) _ hy);obtain⟨k1,cs,I,C,_,rfl,D,G,_,rfl,k4,cb,_,rfl,M,L,_,rfl,Q,rfl⟩:=Sv O he;have e1:b1=b:=by rw[k1] at g1;cases g1;rfl
 have e2:b2=b:=by rw[k1] at g3;cases g3;rfl
 rw[e1] at g2;rw[e2] at g4;have D:C.length=pp:=D;have Q:L.length=q:=Q;have R:=cA k4;have S:=cA M;obtain⟨z,ab⟩:∃z,z=cb++(L++[]):=⟨_,rfl⟩
 have H:z.length=B.length*e.n+q:=by rw[ab];simp only[sM,aA9];omega
 have V:C++(G++(cb++(L++[])))=(C++G++z.take (m*e.n))++((z.drop (m*e.n)).take (B.length*e.n)++z.drop (m*e.n+B.length*e.n)):=by
  rw[<-ab];have:z=z.take (m*e.n)++((z.drop (m*e.n)).take (B.length*e.n)++z.drop (m*e.n+B.length*e.n)):=by
   rw[<-aDb,aAt,aAt]
  conv=>lhs;rw[this]
  simp only[aAm]
 rw[V] at I;have X:min (B.length+m) B.length=B.length:=by omega
 have ac:∀j u,cb[j]? =some u->w.cell? ((⟨b,pp+A.length*e.n,none⟩:Addr).add j)=some u:=by
  have hm:MemAt w b (C.length+G.length) cb:=by
   have h1:=MemAt.of_heap I;rw[<-V,<-aAm] at h1;have:=MemAt.sub (a:=C++G) (c:=cb) (d:=L++[]) h1;simpa using this
  intro j u hj;have:=hm.cell j u hj
  rwa [D,R] at this
 have hr:=Ez (P:=F.P) (w:=w) (tt:=ty) (T:=T) (U:=U) (E:=E) (en:=e.n) (b:=b) (o:=pp+(A.length+m)*e.n) (n:=B.length) (c:=c1) (m:=B.length+m) (cap:=c2) (ad:=some ⟨b,pp+A.length*e.n,none⟩) (news:=cb) hU hE I
  (by simp only[sM,aAp,D,R,H];rw[aB2 (by omega),aBe];omega)
  (by simp only[aAp,aA1,H,S];omega) (by rw[X];exact S) (fun ai h=>by cases h;exact ac) (fun h=>by cases h) (Kc M)
 rw[X] at hr;refine OpWp.value (v:= .int .i64 ((B.length:Nat):Int)) (w':=_) ?_ (Ot (q':=[.any pp,.rows A,.any (m*e.n),.rows B,.any (q - m*e.n)]) O hs ae ah he hd I hBl (news:=cb) fun w' aa=>?_)
 ·simp[execOp,resolve,invoke,builtin,g2,g4,hr]
 ·refine⟨C,_,by rw[aAm,aAm],D,G,_,rfl,Enc.okL_mono k4 aa,z.take (m*e.n),_,rfl,?_,cb,_,rfl,Enc.okL_mono M aa,z.drop (m*e.n+B.length*e.n),[],by simp,?_,rfl⟩
  ·show (z.take (m*e.n)).length=_;rw[aAp,H];omega
  ·show (z.drop (m*e.n+B.length*e.n)).length=_;rw[aA1,H];omega
theorem Wk{q m pp n1 c1 o1 k:Nat}{A V B:List α}{E:TypeId}(he:aW σ.d i=some (.dp (DE.seg T e b) [.any pp,.rows A,.any k,.rows B,.any q] []))(hx:cK σ.g x=some (.asl i o1 0 n1 c1))(hy:Src σ y e V)
  (ho1:o1=pp+A.length*e.n) (hV:V.length=m) (hk:k=m*e.n) (hn1:m<=n1)
  (hU:∀w,(underlying U).run F.P w= .ok (.slice E) w) (hE:∀w,(sizeOf E).run F.P w= .ok e.n w) (hd:gA d F.N=true):
  JM F ⟨d,.call ⟨.builtin .copy,#[x,y],#[U,U]⟩,ty,p,af,gd⟩ σ ⟨hX d (.v (Enc.int .i64) ((m:Nat):Int)) σ.g,(i,.dp (DE.seg T e b) [.any pp,.rows A,.rows V,.rows B,.any q] [])::σ.d⟩:=by
 subst ho1 hk;rintro a w ⟨⟨ρ,R,hs⟩,aj,ak⟩;have K:=bT R hs (Op.call ⟨.builtin .copy,#[x,y],#[U,U]⟩).operands;obtain⟨b1,g1,g2⟩:=qQ (K.slot x (by simp[Op.operands,Call.operands]) _ hx);have S:∀q,q∈#[y]->q∈(Op.call ⟨.builtin .copy,#[x,y],#[U,U]⟩).operands:=by
  intro q z;have ac:q=y:=by simpa using z
  subst ac;simp[Op.operands,Call.operands]
 obtain⟨am,ad,c,r1,r2⟩:=hy ρ _ a w ⟨K.low,fun q z s h=>K.slot q (S q z) s h,fun q z s h=>K.ent q (S q z) s h⟩;obtain⟨k1,cs,L,D,_,rfl,C,M,_,rfl,k4,cg,_,rfl,G,O,_,rfl,k5,Q,_,rfl,ai,rfl⟩:=Sv R he;have e1:b1=b:=by rw[k1] at g1;cases g1;rfl
 rw[e1] at g2;have C:D.length=pp:=C;have G:cg.length=m*e.n:=G;have ae:=cA k4;have X:min m n1=m:=by omega
 obtain⟨news,aa,n2,n3,n4⟩:∃news:List Value,news.length=m*e.n/\e.okL V (Un F.S0 ρ σ.d) w news/\(∀H,ad=some H->∀j u,news[j]? =some u->w.cell? (H.add j)=some u)/\(ad=none->news=[]):=by
  rcases r2 with rfl |⟨b3,an,ds,rfl,al,ab⟩
  ·simp at hV;subst hV;exact⟨[],by simp,rfl,fun _ _ j u h=>by simp at h,fun _=>rfl⟩
  ·exact⟨ds,by rw[cA ab,hV],ab,fun H h=>by cases h;exact al.cell,fun h=>by cases h⟩
 have ah:D++(M++(cg++(O++(Q++[]))))=(D++M)++(cg++(O++Q)):=by simp
 rw[ah] at L;have hr:=Ez (P:=F.P) (w:=w) (tt:=ty) (T:=T) (U:=U) (E:=E) (en:=e.n) (b:=b) (o:=pp+A.length*e.n) (n:=n1) (c:=c1) (m:=m) (cap:=c) (ad:=ad) (news:=news) hU hE L
  (by simp only[sM,C,ae]) (by rw[G,aa]) (by rw[X];exact aa) n3 n4 (Kc n2)
 rw[X] at hr;refine OpWp.value (v:= .int .i64 ((m:Nat):Int)) (w':=_) ?_ (Ot (q':=[.any pp,.rows A,.rows V,.rows B,.any q]) R hs aj ak he hd L (by omega) (news:=news) fun w' I=>?_)
 ·rw[hV] at r1;simp[execOp,resolve,invoke,builtin,g2,r1,hr]
 ·exact⟨D,_,by rw[aAm],C,M,_,rfl,Enc.okL_mono k4 I,news,_,rfl,Enc.okL_mono n2 I,O,_,rfl,Enc.okL_mono k5 I,Q,[],by simp,ai,rfl⟩
end
end Go.Sw
namespace Go.Sw
open Go Go.RowKit
section
variable {F:Frm}{σ:AS}{pb:Option Nat}{s:Slot}{d:Option Tmp}{ty:TypeId}{p:String}{af:Array Edge}{gd:Option (Nat×Bool)}{x y z:Operand}{α:Type}{e:Enc α}{T U:TypeId}{i b:Nat}
theorem Wl{xs:Array Operand}{ρ:Nat->LV}{S a w}(K:Know σ xs ρ S a w)(hm:x∈xs){o n c:Nat}{q:List (Seg α)}(hx:cK σ.g x=some (.asl i o 0 n c))(he:aW σ.d i=some (.dp (DE.seg T e b) q [])):
  a.eval x= .slice (some ⟨b,o,none⟩) n c/\(∃cs,w.heap[b]? =some (.cells cs.toArray T (0,0))/\Seg.okL e S w q cs)/\S b/\b<w.heap.size:=by
 obtain⟨C,h,z⟩:=qQ (K.slot x hm _ hx);obtain⟨⟨u,A⟩,B⟩:=K.ent x hm _ hx i (by simp[Slot.lab]) _ he;rw[u] at h;cases h;exact⟨z,A,B b (.inl (by rw[u];rfl))⟩
theorem Src.seg{pp q n c o:Nat}{A B:List α}(h:cK σ.g y=some (.asl i o 0 n c))(he:aW σ.d i=some (.dp (DE.seg T e b) [.any pp,.rows A,.rows B,.any q] []))(ho:o=pp+A.length*e.n)(hn:n=B.length)(hsz:B.length<=140737488355328):Src σ y e B:=by
 subst ho hn;intro ρ S a w K;obtain⟨u,⟨M,F,C,_,rfl,z,G,_,rfl,H,D,_,rfl,I,L,_,rfl,N,rfl⟩,_⟩:=Wl K (x:=y) (by simp) h he;have z:C.length=pp:=z;have E:=cA H;refine⟨hsz,_,c,u,.inr ⟨b,_,D,rfl,?_,I⟩⟩;have u:=MemAt.of_heap F;rw[<-aAm] at u;have:=MemAt.sub (a:=C++G) (c:=D) (d:=L++[]) u;simpa[z,E] using this
theorem Lh{zs ys ws:List α}{lo:Int}{E:TypeId}(hs0:Sw.sub zs lo (zs.length:Int)=some ws)(hx:cK σ.g x=some (.sub i (lo.toNat*e.n) ((zs.length:Int).toNat - lo.toNat)))(he:aW σ.d i=some (.arr T e zs))(hy:Src σ y e ys)(hle:ys.length<=zs.length - lo.toNat)
  (hU:∀w,(underlying U).run F.P w= .ok (.slice E) w) (hE:∀w,(sizeOf E).run F.P w= .ok e.n w) (hd:gA d F.N=true):
  JM F ⟨d,.call ⟨.builtin .copy,#[x,y],#[U,U]⟩,ty,p,af,gd⟩ σ ⟨hX d (.v (Enc.int .i64) ((ys.length:Nat):Int)) σ.g,(i,.arr T e (zs.take lo.toNat++ys++zs.drop (lo.toNat+ys.length)))::σ.d⟩:=by
 rintro a w ⟨⟨ρ,hc,ak⟩,al,aw⟩;have K:=bT hc ak (Op.call ⟨.builtin .copy,#[x,y],#[U,U]⟩).operands;have aa:=K.slot x (by simp[Op.operands,Call.operands]) _ hx;simp only[Slot.ok] at aa;obtain⟨_,c,o,g1,V,O⟩:=aa;have ab:arrOk T e zs (Un F.S0 ρ σ.d) w (ρ i).v:=(K.ent x (by simp[Op.operands,Call.operands]) _ hx i (by simp[Slot.lab]) _ he).1;have ac:∀q,q∈#[y]->q∈(Op.call ⟨.builtin .copy,#[x,y],#[U,U]⟩).operands:=by
  intro q G;have an:q=y:=by simpa using G
  subst an;simp[Op.operands,Call.operands]
 obtain⟨az,ad,X,r1,r2⟩:=hy ρ _ a w ⟨K.low,fun q G s h=>K.slot q (ac q G) s h,fun q G s h=>K.ent q (ac q G) s h⟩;obtain⟨s0,s1,_,_⟩:=gG hs0;obtain⟨l,hl⟩:∃l,l=lo.toNat:=⟨_,rfl⟩
 simp only[aAf] at g1 V O;rw[<-hl] at g1 V O hle ⊢;have ay:l<=zs.length:=by omega
 have done:∀w',(execOp a.eval ⟨d,.call ⟨.builtin .copy,#[x,y],#[U,U]⟩,ty,p,af,gd⟩).run F.P w= .ok (.value (.int .i64 ((ys.length:Nat):Int))) w'->
   (∃b,pV (ρ i) b/\Upd b w w'/\(Ext (Un F.S0 ρ σ.d) (Un F.S0 ρ σ.d) w w'->(Ent.arr T e (zs.take l++ys++zs.drop (l+ys.length))).ok ρ (Un F.S0 ρ σ.d) w' (ρ i)))\/(w'=w/\zs.take l++ys++zs.drop (l+ys.length)=zs)->
   OpWp F.P ⟨d,.call ⟨.builtin .copy,#[x,y],#[U,U]⟩,ty,p,af,gd⟩ a w fun v w'=>St F ⟨hX d (.v (Enc.int .i64) ((ys.length:Nat):Int)) σ.g,(i,.arr T e (zs.take l++ys++zs.drop (l+ys.length)))::σ.d⟩ (a.put d v) w':=by
  intro w' M h;refine OpWp.value M ?_;obtain⟨q1,q2⟩:Core F ((i,.arr T e (zs.take l++ys++zs.drop (l+ys.length)))::σ.d) ρ w'/\Ext (Un F.S0 ρ σ.d) (Un F.S0 ρ ((i,.arr T e (zs.take l++ys++zs.drop (l+ys.length)))::σ.d)) w w':=by
   rcases h with⟨b,H,h2,I⟩|⟨rfl,h2⟩
   ·exact hc.upd he H h2 I
   ·rw[h2];have ae:∀q en,aW σ.d q=some en↔aW ((i,.arr T e zs)::σ.d) q=some en:=fun q en=>by
     rw[bV];split
     ·rename_i h;subst h;rw[he]
     ·rfl
    exact⟨hc.congr ae,⟨aAi _,fun k _ hk=>⟨rfl,by rw[<-Un.congr ae];exact hk⟩⟩⟩
  refine⟨⟨ρ,q1,fun t s A=>?_⟩,by rw[kG,al],by cases d<;>exact aw⟩;have ah:∀t s,lk σ.g t=some s->s.ok ρ (Un F.S0 ρ ((i,.arr T e (zs.take l++ys++zs.drop (l+ys.length)))::σ.d)) w' (a.tmps.getD t undef):=fun t s A=>Slot.ok_mono s _ (ak t s A) q2 (fun _ _=>rfl);cases d with
  |none=>exact ah t s A
  |some q0=>
   simp only[hX] at A;have ao:q0<a.tmps.size:=by rw[al];exact aAd hd
   rw[kH a q0 _ t ao];rw[lK] at A;split at A
   ·rename_i H;cases A;rw[aAn H];exact sE (Cd (by omega)) _ _ _
   ·rename_i H;rw[aAj H];exact ah t s A
 by_cases Q:zs.length - l=0
 ·have ap:ys=[]:=aAu (by omega);subst ap;refine done w ?_ (.inr ⟨rfl,by simp⟩);have D:∃q,a.eval x= .slice q 0 c:=by
   rw[O,Q];rcases ab with⟨_,h⟩|⟨b,cap,B,z,C,h,_⟩<;>rw[h]<;>exact⟨_,rfl⟩
  obtain⟨q,D⟩:=D;have hf:(Builtin.firstCells e.n 0 (.slice ad 0 X)).run F.P w= .ok #[] w:=by
   cases ad<;>simp[Builtin.firstCells,loadCells,loadCellsFrom]
  have aq:(Builtin.copy_ #[U,U] ty #[.slice q 0 c,.slice ad 0 X]).run F.P w= .ok (.int .i64 0) w:=by
   have L:Nat.min 0 0=0:=rfl;cases q<;>simp[Builtin.copy_,hU,hE,Builtin.lenOf,L,hf,goInt,storeCells]
  simp only[aA9] at r1;simp[execOp,resolve,invoke,builtin,D,r1,aq]
 ·have ho:o=l*e.n:=V.resolve_right Q;subst ho;rcases ab with⟨rfl,h⟩|⟨b,cap,B,z,C,I,h4,h5,h6,h7,h8⟩
  ·simp at Q
  ·have au:=cA h5;have D:a.eval x= .slice (some ⟨b,B.length+l*e.n,none⟩) (zs.length - l) c:=by rw[O,I];rfl
   obtain⟨news,aj,n2,n3,n4⟩:∃news:List Value,news.length=ys.length*e.n/\e.okL ys (Un F.S0 ρ σ.d) w news/\(∀R,ad=some R->∀j u,news[j]? =some u->w.cell? (R.add j)=some u)/\(ad=none->news=[]):=by
    rcases r2 with rfl |⟨b3,a0,ds,rfl,ax,am⟩
    ·exact⟨[],by simp,rfl,fun _ _ j u h=>by simp at h,fun _=>rfl⟩
    ·exact⟨ds,cA am,am,fun R h=>by cases h;exact ax.cell,fun h=>by cases h⟩
   have L:min ys.length (zs.length - l)=ys.length:=by omega
   have m1:l*e.n+ys.length*e.n<=z.length:=by rw[au,<-aBe];exact aBx _ (by omega)
   have av:B++(z++C)=(B++z.take (l*e.n))++((z.drop (l*e.n)).take (ys.length*e.n)++(z.drop (l*e.n+ys.length*e.n)++C)):=by
    have:z=z.take (l*e.n)++((z.drop (l*e.n)).take (ys.length*e.n)++z.drop (l*e.n+ys.length*e.n)):=by
     rw[<-aDb,aAt,aAt]
    conv=>lhs;rw[this]
    simp only[aAm]
   rw[av] at h4;have M:=Ez (P:=F.P) (w:=w) (tt:=ty) (T:=T) (U:=U) (E:=E) (en:=e.n) (b:=b) (o:=B.length+l*e.n) (n:=zs.length - l) (c:=c) (m:=ys.length) (cap:=X) (ad:=ad) (news:=news) hU hE h4
    (by simp only[sM,aAp];omega) (by simp only[aAp,aA1];omega) (by rw[L];exact aj) n3 n4 (Kc n2)
   rw[L] at M;refine done (w.setRow b ((B++z.take (l*e.n))++(news++(z.drop (l*e.n+ys.length*e.n)++C))).toArray) ?_ (.inl ⟨b,.inl (by rw[I];rfl),Upd.setRow w b _,fun S=> .inr ⟨b,cap,B,z.take (l*e.n)++news++z.drop (l*e.n+ys.length*e.n),C,?_,?_,?_,?_,?_,?_⟩⟩)
   ·simp[execOp,resolve,invoke,builtin,D,r1,M]
   ·rw[I];simp only[sM,aAp,aA1];congr 1;omega
   ·have:=setRow_heap w b _ ((B++z.take (l*e.n))++(news++(z.drop (l*e.n+ys.length*e.n)++C))).toArray T _ h4;rw[this];congr 3;simp
   ·refine fU (fU (Enc.okL_mono (rR l h5) S) (Enc.okL_mono n2 S)) ?_;have ai:=Enc.okL_mono (uU (l+ys.length) h5) S;rw[aBe] at ai;exact ai
   ·simp only[sM,aAp,aA1];omega
   ·simp only[sM,aAp,aA1,aj];omega
   ·simp only[sM,aAp,aA1];omega
theorem EZ{pp q k n c o:Nat}{nk:Int}{A B:List α}{I:TypeId}{kI:IntKind}{kI':IntKind}{ti:TypeInfo}{z0:Value}{zv:α}(j:Nat)(h:cK σ.g x=some (.asl i o 0 n c))(he:aW σ.d i=some (.dp (DE.seg T e b) [.any pp,.rows A,.rows B,.any q] []))(hy:cK σ.g y=some (.v (Enc.int kI) nk))
  (ho:o=pp) (hn:n=A.length) (hnk:nk=(k:Int)) (hk:0<k) (hcap:c<n+k) (hlen:A.length+k<=4294967296) (hpos:Nat.blt 0 e.n=true)
  (hU:∀w,(underlying U).run F.P w= .ok (.slice T) w) (hI:∀w,(underlying I).run F.P w= .ok (.int kI') w) (hi:∀w,(typeInfo T).run F.P w= .ok ti w) (hS:∀w,(sizeOf T).run F.P w= .ok e.n w) (hz:ti.zero=some z0) (hzv:∀S w,e.ok zv S w z0.cells.toList) (hby:Nat.ble ti.bytes 4096=true):
  JO F ⟨d,.call ⟨.builtin .append,#[x,y],#[U,I]⟩,ty,p,af,gd⟩ σ (.ref j) [(j,.arr T e (A++List.replicate k zv))]:=by
 subst ho hn hnk;have hpos:1<=e.n:=by simpa[Nat.blt] using hpos
 have hby:=aAd hby;intro ρ S a w K;obtain⟨h1,⟨cs,h2,O,_,rfl,C,ca,_,rfl,Q,cb,_,rfl,k5,aq,_,rfl,ax,rfl⟩,ay,az⟩:=Wl K (x:=x) (by simp[Op.operands,Call.operands]) h he;have C:O.length=o:=C;have G:=cA Q;have V:=(fB K (x:=y) (by simp[Op.operands,Call.operands]) hy).1;have au:ti.size=e.n:=Jw hi hS;have X:MemAt w b o ca:=by
  have:=MemAt.sub (a:=O) (c:=ca) (d:=cb++(aq++[])) (MemAt.of_heap h2);simpa[C] using this
 have aa:∀j v,ca[j]? =some v->w.drew.cell? ((⟨b,o,none⟩:Addr).add j)=some v:=X.cell;have ab:(Builtin.firstCells e.n A.length (.slice (some ⟨b,o,none⟩) A.length c)).run F.P w.drew= .ok ca.toArray w.drew:=run_firstCells_some (P:=F.P) w.drew e.n A.length ⟨b,o,none⟩ A.length c ca G aa;have av:k*ti.bytes<=281474976710656:=by
  have:k*ti.bytes<=4294967296*4096:=aCt (by omega) hby;omega
 have aw:Builtin.nextslicecap (A.length+k) c*ti.bytes<=281474976710656:=growslice_fits (by omega) (by
  have:(A.length+k)*ti.bytes<=4294967296*4096:=aCt hlen hby
  omega)
 have D:(Builtin.append_ #[U,I] ty #[.slice (some ⟨b,o,none⟩) A.length c,.int kI k]).run F.P w=
   .ok (.slice (some ⟨w.heap.size,0,none⟩) (A.length+k) (grownCap w (A.length+k) c T))
    (w.drew.alloc (.cells (ca.toArray++Builtin.zeroCells z0.cells k++Builtin.zeroCells z0.cells (grownCap w (A.length+k) c T - (A.length+k))) T)):=by
  have ac:k≠0:=by omega
  have hw:IntKind.i64.wrap (k:Int)=k:=by rw[IntKind.wrap_i64];omega
  have hn:¬(A.length+k<=c):=by omega
  have ad:¬(9223372036854775807<((A.length:Int)+(k:Int))):=by omega
  have ae:¬(281474976710656<Builtin.nextslicecap (A.length+k) c*ti.bytes):=by omega
  have ah:¬(281474976710656<(k:Int)*(ti.bytes:Int)):=by
   rw[<-Int.natCast_mul];omega
  have ai:¬((k:Int)<0):=by omega
  have aj:¬(k*e.n=0):=Nat.mul_ne_zero ac (by omega);have ak:∀w,(zeroValue T).run F.P w= .ok z0 w:=fun w=>by
   have:=hi w;simp[zeroValue,this,hz]
  simp[Builtin.append_,hU,hI,hS,hi,ak,asInt,asIntOf,hw,hn,ai,aj,ad,ae,ah,Question.forced,ab,newRow,grownCap]
 have al:=grownCap_ge w (A.length+k) c T;obtain⟨u,R⟩:∃u,u=(Builtin.zeroCells z0.cells (grownCap w (A.length+k) c T - (A.length+k))).toList:=⟨_,rfl⟩
 have E:z0.cells.size=e.n:=by have:=e.len (hzv (fun _=>False) w);simpa using this
 have H:(Builtin.zeroCells z0.cells k).toList.length=k*e.n:=by rw[aA3,size_zeroCells,E]
 have am:u.length=(grownCap w (A.length+k) c T - (A.length+k))*e.n:=by rw[R,aA3,size_zeroCells,E]
 have an:∀S w,e.okL (List.replicate k zv) S w (Builtin.zeroCells z0.cells k).toList:=fun S w=>Dk (hzv S w) k _ H fun i hi=>Ag (by rw[E];exact hi);have ao:ca.toArray++Builtin.zeroCells z0.cells k++Builtin.zeroCells z0.cells (grownCap w (A.length+k) c T - (A.length+k))=([]++((ca++(Builtin.zeroCells z0.cells k).toList)++u)).toArray:=by
  apply Array.ext';simp[R]
 rw[ao] at D;obtain⟨w',z⟩:∃w',w'=w.drew.alloc (.cells ([]++((ca++(Builtin.zeroCells z0.cells k).toList)++u)).toArray T):=⟨_,rfl⟩
 rw[<-z] at D;have L:Below w.heap.size w w':=by
  rw[z];exact Below.trans (b:=w.drew) ⟨rfl,rfl,rfl,aAi _,fun _ _=>rfl⟩ (kP w.drew _)
 refine OpWp.value (w':=w') (v:= .slice (some ⟨w.heap.size,0,none⟩) (A.length+k) (grownCap w (A.length+k) c T)) (by simp[execOp,resolve,invoke,builtin,h1,V,D]) ?_;refine yQ (.slice (some ⟨w.heap.size,0,none⟩) (A.length+k) (grownCap w (A.length+k) c T)) L rfl ?_ ?_ ?_
 ·intro b' M;simp only[blk,aAk] at M;subst M;exact⟨aAi _,by rw[z,World.size_alloc];exact Nat.lt_succ_self _⟩
 ·intro N ρ' hS' _;have ap:Ext S N w w':=Qe L hS';refine .inr ⟨w.heap.size,grownCap w (A.length+k) c T,[],ca++(Builtin.zeroCells z0.cells k).toList,u,by simp[LV.of],?_,fU (Enc.okL_mono Q ap) (an _ _),by simpa using al,?_,by simp;omega⟩
  ·rw[z,show w.heap.size=w.drew.heap.size from rfl,heap_alloc_new]
  ·rw[sM,G,H,am,<-aBe,<-aBe];exact aBx _ (by omega)
 ·intro N ρ' _ hρ _;simp only[Slot.ok];exact⟨.inl ⟨_,_,_,hρ⟩,hρ.symm⟩
theorem Qw{P:Program}{w:World}{tS tR E:TypeId}{size b o la ca lb cb oa ba:Nat}{cs:List Value}{c':Array Value}{T':TypeId}{fr:Nat×Nat}(hU:∀w,(underlying tS).run P w= .ok (.slice E) w)(hz:∀w,(sizeOf E).run P w= .ok size w)
  (hne:ba≠b) (hb:w.heap[b]? =some (.cells cs.toArray T (0,0))) (hcs:cs≠ []) (ha:w.heap[ba]? =some (.cells c' T' fr)) (hc':c'.size≠0):
  (Extern.SlicesOverlaps.overlaps #[tS,tS] #[tR] #[.slice (some ⟨ba,oa,none⟩) la ca,.slice (some ⟨b,o,none⟩) lb cb]).run P w= .ok (.bool false) w:=by
 have B:(ba != b)=true:=by simpa using hne
 have C:(ba==b)=false:=by simpa using hne
 have D:∀o,w.frozen? ⟨b,o,none⟩=false:=fun o=>by simp[World.frozen?,hb]
 have u:w.shape? b=some (T,cs.length):=by simp[World.shape?,hb]
 have z:w.shape? ba=some (T',c'.size):=by simp[World.shape?,ha]
 obtain⟨h,G⟩:∃h,c'.size=h+1:=⟨c'.size - 1,by omega⟩
 rw[G] at z;have F:∃m,cs.length=m+1:=⟨cs.length - 1,by have:=aBr.2 hcs;omega⟩
 obtain⟨m,H⟩:=F;rw[H] at u
 change Sem.run P (α:=Value) (do
  let some t:=(#[tS,tS]:Array TypeId)[0]? | stuck "slices.overlaps: no parameter types"
  let .slice elem<-underlying t | stuck "slices.overlaps: slice type expected"
  let size<-sizeOf elem
  match (some ⟨ba,oa,none⟩:Option Addr),(some ⟨b,o,none⟩:Option Addr) with
  |some a,some b=>
   if la=0\/lb=0\/size=0 then pure (Value.bool false)
   else if a.block != b.block && (<-frozen a) && (<-frozen b) then unsupported .addressObserved
   else do
    if a.block != b.block then do
     noView a;noView b
     if<-mayBeOne a b then return Value.bool ((<-choose (.extern "sameAddr.stringBytes" 2))==1)
    pure (Value.bool (a.block==b.block && a.off<b.off+lb*size && b.off<a.off+la*size))
  |_,_=>pure (Value.bool false)) w=_
 by_cases A:la=0\/lb=0\/size=0
 ·simp[hU,hz,A]
 ·cases hfa:w.frozen? ⟨ba,oa,none⟩<;>cases hfa2:w.frozen? ⟨ba,h+1,none⟩<;>
   simp[hU,hz,A,B,C,frozen,noView,viewAt,mayBeOne,stringish,shape,Sem.run,z,u,D,hfa,hfa2]
theorem Sy{f:FuncId}{fn:Func}{vs:List α}{o n c pp q:Nat}{A B:List α}{ts:Array TypeId}{R:TypeId}(hf:F.P.funcs[f]? =some fn)(hname:(fn.name== "runtime.NumGoroutine")=false) (hb:fn.body.isNone=true) (hn:Extern.findNext fn=none)
  (hext:Extern.find fn=some (Extern.SlicesOverlaps.overlaps #[U,U] #[R])) (hx:cK σ.g x=some (.v (Enc.sl e) vs)) (hy:cK σ.g y=some (.asl i o 0 n c)) (he:aW σ.d i=some (.dp (DE.seg T e b) [.any pp,.rows A,.rows B,.any q] [])) (hvs:vs≠ []) (hB:B≠ []) (hpos:Nat.blt 0 e.n=true)
  (hU:∀w,(underlying U).run F.P w= .ok (.slice T) w) (hE:∀w,(sizeOf T).run F.P w= .ok e.n w):JO F ⟨d,.call ⟨.value (.func f),#[x,y],ts⟩,ty,p,af,gd⟩ σ (.v Enc.bool false) []:=by
 have hpos:1<=e.n:=by simpa[Nat.blt] using hpos
 intro ρ S a w K;obtain⟨ad,X,z,_,h2⟩:=EI K (x:=x) (by simp[Op.operands,Call.operands]) hx;obtain⟨C,⟨cs,g2,g3⟩,g4,g5⟩:=Wl K (x:=y) (by simp[Op.operands,Call.operands]) hy he;obtain⟨b1,aa,ds,rfl,k1,k2,k3,k4⟩:=h2.resolve_left hvs;obtain⟨c',T',fr,k5,k6⟩:=k3;have D:=cA k4;have E:=aBr.2 hvs;have G:0<ds.length:=by rw[D];exact Nat.mul_pos E hpos
 have H:c'.size≠0:=by
  intro h0;have:=k6 0 G;rw[aBv (by omega)] at this;cases this
 have I:cs≠ []:=by
  rintro rfl;obtain⟨ab,_,h,_,ca,_,rfl,_,cb,_,rfl,h5,_⟩:=g3;have L:=cA h5;have M:=aBr.2 hB;have:0<cb.length:=by rw[L];exact Nat.mul_pos M hpos
  have N:=congrArg List.length h;simp only[sM,aA9] at N;omega
 have O:=Qw (P:=F.P) (w:=w) (T:=T) (tS:=U) (tR:=R) (size:=e.n) (la:=vs.length) (ca:=X) (lb:=n) (cb:=c) (oa:=aa) (o:=o) hU hE (fun V=>k2 (by rw[V];exact g4)) g2 I k5 H;have u:=run_callFunc_extern hf hname hb hn hext #[a.eval x,a.eval y] w;rw[z,C] at u;rw[O] at u;refine OpWp.value (w':=w) (v:= .bool false) ?_ (Res.same (mS _ ρ S w));have Q:(execOp a.eval ⟨d,.call ⟨.value (.func f),#[x,y],ts⟩,ty,p,af,gd⟩).run F.P w=(callFunc f #[a.eval x,a.eval y]).run F.P w:=by
  simp[execOp,resolve,invoke,Deferred.ofValue,Act.eval]
 rw[Q,z,C,u];rfl
def ins{α:Type}(xs:List α)(n:Int)(vs:List α):Option (List α):=if 0<=n/\n<=xs.length/\xs.length+vs.length<=4294967296 then some (xs.take n.toNat++(vs++xs.drop n.toNat)) else none
theorem FA{α:Type}{xs vs r:List α}{n:Int}(h:ins xs n vs=some r):0<=n/\n<=xs.length/\xs.length+vs.length<=4294967296/\r=xs.take n.toNat++(vs++xs.drop n.toNat):=by
 unfold ins at h;split at h
 ·rename_i u;exact⟨u.1,u.2.1,u.2.2,by cases h;rfl⟩
 ·cases h
theorem Yz{v:Value}{S w u}:Enc.raw.val v S w u↔u=v/\v.oneCell'=true:=by
 constructor
 ·rintro⟨z,⟨rfl,h⟩,rfl⟩;exact⟨rfl,h⟩
 ·rintro⟨rfl,h⟩;exact⟨[u],⟨rfl,h⟩,rfl⟩
theorem BG{o n c:Nat}{E:TypeId}(hx:cK σ.g x=some (.asl i o 0 n c))(hU:∀w,(underlying U).run F.P w= .ok (.slice E) w):JO F ⟨d,.call ⟨.builtin .cap,#[x],#[U]⟩,ty,p,af,gd⟩ σ (.v Enc.raw (.int .i64 (c:Int))) []:=by
 intro ρ S a w K;obtain⟨b,_,u⟩:=qQ (K.slot x (by simp[Op.operands,Call.operands]) _ hx);refine OpWp.value (w':=w) (v:= .int .i64 (c:Int)) ?_ (Res.same (by simp only[Slot.ok];exact Yz.2 ⟨rfl,rfl⟩));have h:(Builtin.cap_ #[U] ty #[.slice (some ⟨b,o,none⟩) n c]).run F.P w= .ok (.int .i64 c) w:=by simp[Builtin.cap_,hU,goInt]
 simp[execOp,resolve,invoke,builtin,u,h]
theorem BH{m n:Int}{T T':TypeId}(hx:cK σ.g x=some (.v (Enc.int .i64) m))(hy:cK σ.g y=some (.v Enc.raw (.int .i64 n))):JO F ⟨d,.binOp .gtr T x y T',ty,p,af,gd⟩ σ (.v Enc.bool (cm .gtr m n)) []:=by
 intro ρ S a w K;have u:=(fB K (x:=x) (by simp[Op.operands]) hx).1;have h:=K.slot y (by simp[Op.operands]) _ hy;simp only[Slot.ok] at h;have h:=(Yz.1 h).1;refine OpWp.value (w':=w) (v:= .bool (cm .gtr m n)) ?_ (Res.same (mS _ ρ S w));simp[execOp,u,h,eqGuard,Go.binOp,Op.intCmp,cm]
end
end Go.Sw
namespace Go.Sw
open Go Go.RowKit
def kp{α:Type}[DecidableEq α]:List α->α->Option Nat
 | [],_=>none
 |a::l,k=>if a=k then some 0 else (kp l k).map (·+1)
theorem FB{α:Type}[DecidableEq α]{k:α}:∀{l:List α} {i:Nat},kp l k=some i->i<l.length/\l[i]? =some k
 | [],i,h=>by simp[kp] at h
 |a::l,i,h=>by
  simp only[kp] at h;split at h
  ·rename_i u;cases h;simp[u]
  ·cases hr:kp l k with
   |none=>rw[hr] at h;cases h
   |some j=>rw[hr] at h;cases h;obtain⟨A,z⟩:=FB hr;exact⟨by simp;omega,by simpa using z⟩
theorem Za{α β:Type}[DecidableEq α]{k:α}:∀{m:List (α×β)},eV m k=(kp (m.map (·.1)) k).bind fun i=>(m[i]?).map (·.2)
 | []=>rfl
 | (a,b)::m=>by
  simp only[eV,aAx,kp];split
  ·simp
  ·rw[Za (m:=m)];cases kp (m.map (·.1)) k<;>simp
def KsL{α:Type}(e:Enc α)(S:Nat->Prop)(w:World):List α->List MapEntry->Prop
 | [],[]=>True
 |k::ks,x::xs=>e.val k S w x.key/\KsL e S w ks xs
 |_,_=>False
theorem KsL.mono{α:Type}{e:Enc α}{S S':Nat->Prop}{w w':World}(k:Ext S S' w w'):∀{m:List α} {xs:List MapEntry},KsL e S w m xs->KsL e S' w' m xs
 | [],[],_=>trivial
 |_::_,_::_,⟨u,z⟩=>⟨gB u k,KsL.mono k z⟩
 | [],_::_,h=>h.elim
 |_::_,[],h=>h.elim
theorem KsL.len{α:Type}{e:Enc α}{S:Nat->Prop}{w:World}:∀{m:List α} {xs:List MapEntry},KsL e S w m xs->xs.length=m.length
 | [],[],_=>rfl
 |_::_,_::_,⟨_,u⟩=>by simp[u.len]
 | [],_::_,h=>h.elim
 |_::_,[],h=>h.elim
theorem KsL.get{α:Type}{e:Enc α}{S:Nat->Prop}{w:World}:∀{m:List α} {xs:List MapEntry},KsL e S w m xs->∀{i:Nat} {k:α} {x:MapEntry},m[i]? =some k->xs[i]? =some x->e.val k S w x.key
 | [],[],_,i,k,x,h,_=>by simp at h
 |_::_,_::_,⟨z,A⟩,i,k,x,h,u=>by
  cases i with
  |zero=>simp at h u;subst h;subst u;exact z
  |succ i=>exact A.get (by simpa using h) (by simpa using u)
 | [],_::_,h,_,_,_,_,_=>h.elim
 |_::_,[],h,_,_,_,_,_=>h.elim
theorem KsL.push{α:Type}{e:Enc α}{S:Nat->Prop}{w:World}{k:α}{x:MapEntry}(h1:e.val k S w x.key):∀{m:List α} {xs:List MapEntry},KsL e S w m xs->KsL e S w (m++[k]) (xs++[x])
 | [],[],_=>⟨h1,trivial⟩
 |_::_,_::_,⟨u,z⟩=>⟨u,KsL.push h1 z⟩
 | [],_::_,h=>h.elim
 |_::_,[],h=>h.elim
theorem KsL.modify{α:Type}{e:Enc α}{S:Nat->Prop}{w:World}{f:MapEntry->MapEntry}:∀{m:List α} {xs:List MapEntry} {i:Nat},KsL e S w m xs->(∀k x,m[i]? =some k->xs[i]? =some x->e.val k S w (f x).key)->KsL e S w m (xs.modify i f)
 | [],[],i,_,_=>by simp[KsL]
 |_::_,_::_,i,⟨B,u⟩,h=>by
  cases i with
  |zero=>exact⟨h _ _ rfl rfl,u⟩
  |succ i=>exact⟨B,u.modify fun k x z A=>h k x (by simpa using z) (by simpa using A)⟩
 | [],_::_,_,h,_=>h.elim
 |_::_,[],_,h,_=>h.elim
theorem Sz{α:Type}[DecidableEq α]{n:Nat}{P:Program}{T:TypeId}{e:Enc α}(hn:n<=10000)(he:EqE n P T e){S S':Nat->Prop}{w1 w2:World}{k:α}{cs:List Value}(hk:e.ok k S' w2 cs)(w:World):
  ∀(m:List α) (es:List MapEntry) (i:Nat),KsL e S w1 m es->(Instr.findAsking T (e.pk cs) es i).run P w= .ok ((kp m k).bind fun j=>(es[j]?).map fun x=>(i+j,x.val)) w
 | [],[],i,_=>by simp[Instr.findAsking,kp]
 |a::m,x::xs,i,⟨⟨C,D,E⟩,F⟩=>by
  obtain⟨r,A,B⟩:=he 10000 hn w S' S w2 w1 k a cs C hk D;rw[<-E] at A;have z:(Op.equal T (e.pk cs) x.key).run P w= .ok r w:=A;cases r with
  |true=>
   have u:=B.1 rfl;simp[Instr.findAsking,z,kp,u]
  |false=>
   have u:¬a=k:=fun h=>by have:=B.2 h.symm;cases this
   have:=Sz hn he hk w m xs (i+1) F;simp only[Instr.findAsking,Sem.run_bind,z,Result.andThen_ok,aAw,aA4,this,kp,aAj u];cases kp m k with
   |none=>rfl
   |some j=>simp[aDs,aCz 1 j]
 | [],_::_,_,h=>h.elim
 |_::_,[],_,h=>h.elim
theorem FC{α:Type}[DecidableEq α]{n l:Nat}{E:TypeId}{P:Program}{T:TypeId}{e:Enc α}(hn:n<=10000)(hT:∀w,(underlying T).run P w= .ok (.array l E) w)(he:EqE n P T e){S S':Nat->Prop}{w1 w2:World}{k:α}{cs:List Value}(hk:e.ok k S' w2 cs)(w:World)
  (m:List α) (es:List MapEntry) (h:KsL e S w1 m es):(Instr.findKey T (e.pk cs) es).run P w= .ok ((kp m k).bind fun j=>(es[j]?).map fun x=>(j,x.val)) w:=by
 match m,es,h with
 | [],[],_=>simp[Instr.findKey,hT,Instr.findNow,kp]
 |q::m,x::xs,h=>
  have u:=Sz hn he hk w (q::m) (x::xs) 0 h;simp only[aC4] at u;simp only[Instr.findKey,Sem.run_bind,hT,Result.andThen_ok,Instr.findNow,Instr.sameNow,u]
def SameE{α:Type}(e:Enc α):Prop:=∀(x:α) (S S':Nat->Prop) (w w':World) (v v':Value),e.val x S w v->e.val x S' w' v'->Instr.sameBits 10000 v v'=true
theorem Zb{k:IntKind}{S S':Nat->Prop}{w w':World}:∀{xs:List Int} {cs ds:List Value},(Enc.int k).okL xs S w cs->(Enc.int k).okL xs S' w' ds->ds=cs/\∀c∈cs,∃n,c= .int k n
 | [],_,_,h,z=>by simp only[Enc.okL] at h z;subst h;subst z;exact⟨rfl,by simp⟩
 |x::xs,_,_,⟨c,d,A,F,G⟩,⟨H,M,I,K,L⟩=>by
  obtain⟨D,E⟩:=Zb G L;have B:c=[.int k x]:=F.1;have C:H=[.int k x]:=K.1;subst B;subst C;subst D;refine⟨by rw[A,I],?_⟩;rw[A];intro q u;rcases aA0.1 u with u | u
  ·exact⟨x,by simpa using u⟩
  ·exact E q u
theorem SameE.arr{k:IntKind}{m:Nat}:SameE (Enc.arr m (Enc.int k)):=by
 rintro x S F w G v H ⟨I,h,rfl⟩ ⟨C,D,rfl⟩;obtain⟨rfl,A⟩:=Zb h.2 D.2;have B:∀l:List Value,(∀c∈l,∃n,c= .int k n)->(l.zip l).all (fun (x,y)=>Instr.sameBits 9999 x y)=true:=by
  intro l z;rw[aAh];rintro⟨a,b⟩ u;have:a=b:=by
   clear z A
   induction l with
   |nil=>simp at u
   |cons y l E=>
    rcases aAo.1 u with h | h
    ·simp only[aBg] at h;rw[h.1,h.2]
    ·exact E h
  subst this;obtain⟨n,rfl⟩:=z a (List.of_mem_zip u).1;simp[Instr.sameBits]
 have:=B C A;simp only[Enc.pk,Enc.arr,aBb];show Instr.sameBits (9999+1) _ _=true;simp only[Instr.sameBits,BEq.rfl,aEq];simpa using this
structure MpsOk {α κ:Type} (fr:Bool) (ke:Enc κ) (T2:TypeId) (e:Enc α) (m:List (κ×List α)) (o:Option Nat) (S:Nat->Prop) (w:World) (x:Nat->Prop) (b:Nat) (es:List MapEntry) (ck:Nat):Prop where
 keys:KsL ke S w (m.map (·.1)) es
 rows:Rws T2 e (m.map (·.2)) o S w x (some b) (es.map (·.val))
 born:fr=true->ck=es.length/\∀(j:Nat) (q:MapEntry),es[j]? =some q->q.born=j
theorem MpsOk.mono{α κ:Type}{fr:Bool}{ke:Enc κ}{T2:TypeId}{e:Enc α}{m:List (κ×List α)}{o:Option Nat}{S S':Nat->Prop}{w w':World}{x x':Nat->Prop}{b:Nat}{es:List MapEntry}{ck:Nat}
  (h:MpsOk fr ke T2 e m o S w x b es ck) (hE:Ext S S' w w') (hx:∀b,x b->x' b) (hb:∀b,x b->w'.heap[b]? =w.heap[b]?):MpsOk fr ke T2 e m o S' w' x' b es ck:=
 ⟨h.keys.mono hE,⟨h.rows.len,fun j xs q u A z=>(h.rows.ok j xs q u A z).mono hE (fun b B=>hb b (h.rows.own j q b u z B).1),fun j q k u A z=>⟨hx _ (h.rows.own j q k u A z).1,(h.rows.own j q k u A z).2⟩,h.rows.inj⟩,h.born⟩
def DE.mps{α κ:Type}(fr:Bool)(ke:Enc κ)(T2:TypeId)(e:Enc α):DE (List (κ×List α)×Option Nat) where
 ok q S w u l:=∃b z A,u.v= .map (some b)/\w.heap[b]? =some (.map z A)/\MpsOk fr ke T2 e q.1 q.2 S w u.x b z.toList A/\∀j,q.2=some j->(z.toList.map (·.val))[j]? =l.head?
 mono:=by
  rintro q S I w K u l ⟨b,z,A,B,E,F,G⟩ H C;exact⟨b,z,A,B,by rw[C b (.inl (by rw[B];rfl))];exact E,F.mono H (fun _ h=>h) (fun D h=>C D (.inr h)),G⟩
def Qx{κ α:Type}[DecidableEq κ](m:List (κ×List α))(k:κ):Option (List (κ×List α)×Nat×List α):=
 if m.length<=140737488355328 then some (match kp (m.map (·.1)) k with | none=>(m++[(k,[])],m.length,[]) | some i=>(m,i,((m[i]?).map (·.2)).getD [])) else none
def vF{κ β:Type}(m:List (κ×β))(i:Nat)(v:β):List (κ×β):=m.modify i fun p=>(p.1,v)
theorem FD{κ β:Type}{m:List (κ×β)}{i:Nat}{v:β}:(vF m i v).map (·.1)=m.map (·.1):=by
 apply aCb;intro j;simp only[vF,aBl,aB6];cases m[j]? <;>simp;split<;>rfl
theorem FE{κ β:Type}{m:List (κ×β)}{i:Nat}{v:β}:(vF m i v).map (·.2)=(m.map (·.2)).set i v:=by
 apply aCb;intro j;simp only[vF,aBl,aB6,aCp,aBp];by_cases u:j<m.length
 ·rw[aAg u];by_cases h:i=j<;>simp[h,u]
 ·rw[aAv (by omega)];by_cases h:i=j<;>simp[h];omega
def Enc.mpF{κ β:Type}(ke:Enc κ)(f:Enc β):Enc (List (κ×β)) where
 n:=1
 agg:=false
 ok m S w cs:=(m=[]/\cs=[.map none])\/∃b u z,cs=[.map (some b)]/\b<w.heap.size/\¬S b/\w.heap[b]? =some (.map u z)/\Vs ke f S w m u.toList
 len h:=by rcases h with⟨_,h⟩|⟨b,u,z,h,_⟩<;>rw[h]<;>rfl
 one _:=rfl
 cell h c hc:=by rcases h with⟨_,h⟩|⟨b,u,z,h,_⟩<;>rw[h] at hc<;>simp at hc<;>subst hc<;>rfl
 mono h k:=by
  rcases h with⟨h,C⟩|⟨b,u,z,D,A,B,E,F⟩
  ·exact .inl ⟨h,C⟩
  ·exact .inr ⟨b,u,z,D,aAy A k.size,(k.keep b A B).2,by rw[(k.keep b A B).1];exact E,yN k F⟩
theorem Z.mpF{κ β:Type}(ke:Enc κ)(f:Enc β):∀S w,(Enc.mpF ke f).ok [] S w [.map none]:=fun _ _=> .inl ⟨rfl,rfl⟩
section
variable {F:Frm}{σ:AS}{d:Option Tmp}{ty:TypeId}{p:String}{af:Array Edge}{gd:Option (Nat×Bool)}{x y z:Operand}{κ α:Type}{ke:Enc κ}{e:Enc α}{T2:TypeId}{m:List (κ×List α)}{i j:Nat}
theorem Frz.mps{fr:Bool}:Frz (DE.mps fr ke T2 e) (m,none) (Enc.mpF ke (Enc.sl e)) m:=by
 rintro S S' w u ⟨b,H,ck,E,F,⟨h3,I,_⟩,_⟩ K L;have M:∀(A:List (κ×List α)) (el:List MapEntry),KsL ke S w (A.map (·.1)) el->(∀(j:Nat) (C:List α) (v:Value),(A.map (·.2))[j]? =some C->(el.map (·.val))[j]? =some v->arrOk T2 e C S w v/\∀b,blk v=some b->u.x b)->Vs ke (Enc.sl e) S' w A el:=by
  intro A
  induction A with
  |nil=>intro el z _;cases el with
   |nil=>trivial
   |cons q el=>exact z.elim
  |cons q A ih=>
   intro el z h;cases el with
   |nil=>exact z.elim
   |cons v el=>
    obtain⟨G,U⟩:=h 0 q.2 v.val rfl rfl;obtain⟨V,X⟩:=z;obtain⟨q1,q2⟩:=q;obtain⟨ad,c,hs⟩:=G.slice;refine⟨gB V K,⟨[v.val],Qi (ρ:=fun _=> .of undef) (u:= .of v.val) (T:=T2) G K fun b D=>L b (.inr (U b (nY.1 D))),by simp[Enc.pk,Enc.sl]⟩,ih el X fun j O P Q B=>h (j+1) O P (by simpa using Q) (by simpa using B)⟩
 have z:=M m H.toList h3 fun j C v R B=>⟨I.ok j C v (by simp) R B,fun b D=>(I.own j v b (by simp) B D).1⟩
 have N:b<w.heap.size:=by
  rcases aBc b w.heap.size with h | h
  ·exact h
  ·rw[aBv h] at F;cases F
 refine⟨.inr ⟨b,H,ck,by rw[E],N,L b (.inl (by rw[E];rfl)),F,z⟩,by rw[E];rfl⟩
theorem Ta{T:TypeId}(i:Nat)(ke:Enc κ)(T2:TypeId)(e:Enc α):JO F ⟨d,.makeMap T none,ty,p,af,gd⟩ σ (.ref i) [(i,.dp (DE.mps true ke T2 e) ([],none) [])]:=by
 intro ρ S a w K;refine OpWp.value (w':=w.alloc (.map #[] 0)) (v:= .map (some w.heap.size)) (by simp[execOp,Instr.makeMap]) ?_;refine yQ (.map (some w.heap.size)) (kP _ _) rfl ?_ ?_ ?_
 ·intro b z;simp[blk] at z;subst z;exact⟨aAi _,by simp⟩
 ·intro A ρ' h _;exact⟨_,#[],0,rfl,heap_alloc_new _ _,⟨trivial,⟨rfl,fun j xs q _ u=>by simp at u,fun j q k _ u=>by simp at u,fun j B q C k _ _ u=>by simp at u⟩,fun _=>⟨rfl,fun j q h=>by simp at h⟩⟩,fun j h=>by cases h⟩
 ·intro A ρ' _ hi _;simp only[Slot.ok];exact⟨by rw[hi];exact .inr ⟨_,rfl⟩,hi.symm⟩
theorem Wm{β:Type}[DecidableEq κ]{n n' l:Nat}{M KT VT E:TypeId}{f:Enc β}{m:List (κ×β)}{k:κ}{u:β}{zv:Value}(hx:cK σ.g x=some (.v (Enc.mpF ke f) m))(hy:cK σ.g y=some (.v ke k))
  (hM:∀w,(underlying M).run F.P w= .ok (.map KT VT) w) (hT:∀w,(underlying KT).run F.P w= .ok (.array l E) w) (he:EqE n F.P KT ke) (hn:Nat.ble n 10000=true) (hk:KeyE n' F.P KT ke) (hn':Nat.ble n' 10000=true)
  (hz:∀w,(zeroValue VT).run F.P w= .ok zv w) (hzv:∀S w,f.val u S w zv):JO F ⟨d,.lookup M x y false,ty,p,af,gd⟩ σ (.v f ((eV m k).getD u)) []:=by
 intro ρ S a w K;have z:=K.slot x (by simp[Op.operands]) _ hx;have h:=K.slot y (by simp[Op.operands]) _ hy;simp only[Slot.ok] at z h;obtain⟨G,h,C⟩:=h;obtain⟨V,z,H⟩:=z;rcases z with⟨rfl,rfl⟩|⟨b,L,X,rfl,_,_,R,T⟩
 ·have A:=hk 10000 (aAd hn') true w S w k G h;refine OpWp.value (w':=w) (v:=zv) ?_ (Res.same (by simp only[Slot.ok];exact hzv _ _));have B:a.eval x= .map none:=H;simp[execOp,B,C,Instr.lookup,hM,A,hz,Instr.findKey,hT,Instr.findNow]
 ·have B:a.eval x= .map (some b):=H;obtain⟨r,I,N,O⟩:=Hq (aAd hn) hT he h w m L.toList T;have A:=hk 10000 (aAd hn') L.isEmpty w S w k G h;have D:=MapKept.run_getObj_map (P:=F.P) R;cases hm:eV m k with
  |none=>
   have:=N hm;subst this;refine OpWp.value (w':=w) (v:=zv) ?_ (Res.same (by simp only[Slot.ok];exact hzv _ _));simp[execOp,B,C,Instr.lookup,hM,D,A,I,hz]
  |some U=>
   obtain⟨j,v,rfl,Q⟩:=O U hm;refine OpWp.value (w':=w) (v:=v) ?_ (Res.same (by simp only[Slot.ok];exact Q));simp[execOp,B,C,Instr.lookup,hM,D,A,I]
theorem Tc[DecidableEq κ]{n n' l:Nat}{M KT VT E:TypeId}{k:κ}{r:List (κ×List α)×Nat×List α}(j:Nat)(hm:Qx m k=some r)(hx:cK σ.g x=some (.ref i))(hd:aW σ.d i=some (.dp (DE.mps true ke T2 e) (m,none) []))(hy:cK σ.g y=some (.v ke k))
  (hM:∀w,(underlying M).run F.P w= .ok (.map KT VT) w) (hT:∀w,(underlying KT).run F.P w= .ok (.array l E) w) (he:EqE n F.P KT ke) (hn:Nat.ble n 10000=true) (hk:KeyE n' F.P KT ke) (hn':Nat.ble n' 10000=true) (hsame:SameE ke)
  (hz:∀w,(zeroValue VT).run F.P w= .ok (.slice none 0 0) w) (hf:σ.free [(j,.arr T2 e r.2.2)]=true) (hdst:gA d F.N=true):
  JM F ⟨d,.mapEntry M x y,ty,p,af,gd⟩ σ ⟨hX d (.tup [.ref j,.v (Enc.int .i64) (r.2.1:Int)]) σ.g,(j,.arr T2 e r.2.2)::(i,.dp (DE.mps true ke T2 e) (r.1,some r.2.1) [j])::σ.d⟩:=by
 rintro a w ⟨⟨ρ,hc,hs⟩,bc,bw⟩;have K:=bT hc hs (Op.mapEntry M x y).operands;obtain⟨h1,⟨b,B,ck,h3,h4,A,_⟩,_⟩:=xO K (x:=x) (by simp[Op.operands]) hx hd;have U:=K.slot y (by simp[Op.operands]) _ hy;simp only[Slot.ok] at U;have al:=U;obtain⟨cs,U,h7⟩:=U;have h8:=FC (aAd hn) hT he U w (m.map (·.1)) B.toList A.keys;have a1:=hk 10000 (aAd hn') false w _ w k cs U;have hg:=MapKept.run_getObj_map (P:=F.P) h4;have am:=fun o=>MapKept.run_setObj_map (P:=F.P) o h4;have an:=kF hf (i:=j) (en:= .arr T2 e r.2.2) (by simp[aW]);have be:j≠i:=fun e=>by subst e;rw[an.2.1] at hd;cases hd
 obtain⟨aw,ax⟩:=A.born rfl;have V:B.toList.length=m.length:=by simpa using A.keys.len
 unfold Qx at hm;split at hm
 case isFalse=>cases hm
 rename_i b1;have hm:=pT hm;obtain⟨G,aa,v,br,bs,bt,bb,T,ab,bu⟩:∃(G:Array MapEntry) (aa:Nat) (v:Value),(execOp a.eval ⟨d,.mapEntry M x y,ty,p,af,gd⟩).run F.P w= .ok (.value (.tuple #[v,.int .i64 (r.2.1:Int)])) { w with heap:=w.heap.setIfInBounds b (.map G aa) }/\
   (∃a c,v= .slice a r.2.2.length c)/\(∀S' w',Ext (Un F.S0 ρ σ.d) S' w w'->KsL ke S' w' (r.1.map (·.1)) G.toList)/\G.toList.length=r.1.length/\(G.toList.map (·.val))[r.2.1]? =some v/\
   ((v= .slice none 0 0/\r.2.2=[]/\(∀q,q≠r.2.1->r.1[q]? =m[q]?/\(G.toList.map (·.val))[q]? =(B.toList.map (·.val))[q]?))\/(m[r.2.1]?.map (·.2)=some r.2.2/\r.1=m/\G.toList.map (·.val)=B.toList.map (·.val)))/\
   (aa=G.toList.length/\∀(j:Nat) (q:MapEntry),G.toList[j]? =some q->q.born=j):=by
  cases hkp:kp (m.map (·.1)) k with
  |none=>
   rw[hkp] at hm h8;simp only[Option.bind_none] at h8;simp only at hm;subst hm;refine⟨B.push { key:=a.eval y,val:= .slice none 0 0,born:=ck },ck+1,.slice none 0 0,?_,⟨none,0,rfl⟩,?_,?_,?_,.inl ⟨rfl,rfl,fun q z=>?_⟩,?_,?_⟩
   ·have:ck=m.length:=by rw[aw,V]
    simp[execOp,h1,h3,h7,Instr.mapEntry,hM,hg,a1,h8,am,hz,goInt,this]
   ·intro S' w' L;rw[aDk,aCq];exact(A.keys.mono L).push (gB al L)
   ·simp[V]
   ·simp[<-V]
   ·rw[aDk,aCq];have I:q≠m.length:=z;rcases aBc q m.length with h | h
    ·rw[aBt h,aBt (by simpa[V] using h)];exact⟨rfl,rfl⟩
    ·rw[aAv (by simp;omega),aAv (by omega),aAv (by simp at V ⊢;omega),aAv (by simp at V ⊢;omega)];exact⟨rfl,rfl⟩
   ·simp[aw]
   ·intro q x z;rw[aDk] at z;rcases aBc q B.toList.length with h | h
    ·rw[aBt h] at z;exact ax q x z
    ·rw[aDn h] at z;have h0:q - B.toList.length=0:=by
      rcases aEh (q - B.toList.length) with h | h
      ·exact h
      ·rw[aAv (by simp at h ⊢;omega)] at z;cases z
     rw[h0] at z;simp at z;subst z;show ck=q;omega
  |some q=>
   rw[hkp] at hm h8;simp only at hm;subst hm;obtain⟨k1,k2⟩:=FB hkp;have a2:q<m.length:=by simpa using k1
   have k3:q<B.toList.length:=by omega
   have ao:q<B.size:=by simpa using k3
   have k5:B.toList[q]? =some B[q]:=by simp[ao]
   simp only[cM,k5,aBu] at h8;have k6:B[q]? =some B[q]:=aBs ao;have bf:ke.val k (Un F.S0 ρ σ.d) w B[q].key:=A.keys.get k2 k5;have bg:=hsame k _ _ _ _ _ _ bf al;have bh:(Instr.keyThatStays B[q].key (a.eval y)).run F.P w= .ok (a.eval y) w:=by simp[Instr.keyThatStays,bg]
   have bi:=ax q _ k5;have bj:=A.rows.ok q (m[q].2) B[q].val (by simp) (by simp[a2]) (by simp[ao]);have a3:m[q]? =some m[q]:=aAg a2;refine⟨B.modify q fun e=>{ e with key:=a.eval y },ck,B[q].val,?_,?_,?_,?_,?_,.inr ⟨?_,rfl,?_⟩,?_,?_⟩
   ·simp[execOp,h1,h3,h7,Instr.mapEntry,hM,hg,a1,h8,am,goInt,k6,bi];rw[<-h7,bh];simp[am]
   ·simp only[a3,aBu,aCe];exact bj.slice
   ·intro S' w' L;rw[aCh];exact(A.keys.mono L).modify fun k' x ba R=>by
     rw[k2] at ba;cases ba;exact gB al L
   ·simpa using V
   ·rw[aCh,aBl,aB6,k5];simp
   ·simp[a3]
   ·rw[aCh];apply aCb;intro Q;simp only[aBl,aB6];cases B.toList[Q]? <;>simp;split<;>rfl
   ·simpa using aw
   ·intro Q x' I;rw[aCh,aB6] at I;cases R:B.toList[Q]? with
    |none=>rw[R] at I;cases I
    |some y'=>
     rw[R] at I;have:=ax Q y' R;simp only[Option.map_eq_map,aBu,aAk] at I;subst I;split<;>exact this
 obtain⟨av,cv,bv⟩:=bs;have bz:r.2.1<r.1.length:=by
  rw[<-bb];rcases aBc r.2.1 G.toList.length with h | h
  ·exact h
  ·rw[aAv (by simpa using h)] at T;cases T
 have bk:Db .i64 (r.2.1:Int):=by
  have:r.1.length<=m.length+1:=by
   rcases ab with⟨_,_,h⟩|⟨_,h,_⟩
   ·rcases aBc (m.length+1) r.1.length with C | C
    ·have H:=(h (m.length) )
     have ad:=(h (m.length+1))
     by_cases bl:m.length=r.2.1
     ·have:=(ad (by omega)).1;rw[aAg C,aAv (by omega)] at this;cases this
     ·have:=(H bl).1;rw[aAg (by omega),aAv (by omega)] at this;cases this
    ·exact C
   ·rw[h];omega
  exact Cd (n:=r.2.1) (by omega)
 have ap:=MapKept.heap_set (o':= .map G aa) h4;have bm:Chg (some b) w { w with heap:=w.heap.setIfInBounds b (.map G aa) }:=⟨by simp,fun k _ hk=>ap.2 k (fun e=>hk (by rw[e])),rfl,rfl,rfl⟩
 refine OpWp.value br ?_;have ah:∀c,blk v=some c->(ρ i).x c/\c≠b:=by
  intro c u;rcases ab with⟨rfl,_⟩|⟨_,_,h⟩
  ·simp[blk] at u
  ·rw[h] at T;obtain⟨k1,k2⟩:=A.rows.own _ v c (by simp) T u;exact⟨k1,fun e=>k2 (by rw[e])⟩
 let ρ':Nat->LV:=fun l=>if l=j then .of v else if l=i then ⟨(ρ i).v,fun b=>(ρ i).x b/\blk v≠some b⟩ else ρ l
 have X:ρ' j= .of v:=aAn rfl;have ri:ρ' i=⟨(ρ i).v,fun b=>(ρ i).x b/\blk v≠some b⟩:=by show (if i=j then _ else _)=_;rw[aAj (aC9 be),aAn rfl]
 have O:∀l,l≠j->l≠i->ρ' l=ρ l:=fun l h1 h2=>by show (if l=j then _ else _)=_;rw[aAj h1,aAj h2]
 have rv:∀l,l≠j->(ρ' l).v=(ρ l).v:=fun l h1=>by
  by_cases h2:l=i
  ·subst h2;rw[ri]
  ·rw[O l h1 h2]
 have hl:∀l en,aW ((j,.arr T2 e r.2.2)::(i,.dp (DE.mps true ke T2 e) (r.1,some r.2.1) [j])::σ.d) l=some en->(l=j/\en= .arr T2 e r.2.2)\/(l=i/\en= .dp (DE.mps true ke T2 e) (r.1,some r.2.1) [j])\/(l≠j/\l≠i/\aW σ.d l=some en):=by
  intro l en h;rcases Gh h with h |⟨h0,h⟩
  ·exact .inl h
  ·rcases Gh h with h |⟨A,h⟩
   ·exact .inr (.inl h)
   ·exact .inr (.inr ⟨h0,A,h⟩)
 have bn:∀l en b,aW ((j,.arr T2 e r.2.2)::(i,.dp (DE.mps true ke T2 e) (r.1,some r.2.1) [j])::σ.d) l=some en->pV (ρ' l) b->∃l0 en0,aW σ.d l0=some en0/\pV (ρ l0) b:=by
  intro l en b h u;rcases hl l en h with⟨rfl,rfl⟩|⟨rfl,rfl⟩|⟨A,U,h7⟩
  ·rw[X,nY] at u;exact⟨i,_,hd,.inr (ah b u).1⟩
  ·rw[ri,Ld] at u;exact⟨l,_,hd,u.imp id And.left⟩
  ·rw[O l A U] at u;exact⟨l,en,h7,u⟩
 have aq:blk (ρ i).v=some b:=by rw[h3];rfl
 have a4:∀b,pV (ρ' j) b->pV (ρ' i) b->False:=by
  intro b' u D;rw[X,nY] at u;rw[ri,Ld] at D;rcases D with D | D
  ·rw[aq] at D;exact(ah b' u).2 (pT D).symm
  ·exact D.2 u
 have ai:∀l en b,l≠i->aW σ.d l=some en->pV (ρ l) b->¬pV (ρ' j) b/\¬pV (ρ' i) b:=by
  intro l en b a6 a7 u;refine⟨fun h=>?_,fun h=>?_⟩
  ·rw[X,nY] at h;exact a6 (hc.inj l i en _ b a7 hd u (.inr (ah b h).1))
  ·rw[ri,Ld] at h;exact a6 (hc.inj l i en _ b a7 hd u (h.imp id And.left))
 obtain⟨q1,q2⟩:=hc.step bm (fun c u=>⟨i,_,hd,.inl (by rw[aq];exact u)⟩) (d':=(j,.arr T2 e r.2.2)::(i,.dp (DE.mps true ke T2 e) (r.1,some r.2.1) [j])::σ.d) (ρ':=ρ') (fun l en b h u=> .inr (bn l en b h u)) (by
  intro l l' en aj b h h' u D;rcases hl l en h with⟨rfl,rfl⟩|⟨rfl,rfl⟩|⟨g5,g6,g7⟩<;>rcases hl l' aj h' with⟨rfl,rfl⟩|⟨rfl,rfl⟩|⟨ay,ae,az⟩
  ·rfl
  ·exact(a4 b u D).elim
  ·rw[O l' ay ae] at D;exact((ai l' aj b ae az D).1 u).elim
  ·exact(a4 b D u).elim
  ·rfl
  ·rw[O l' ay ae] at D;exact((ai l' aj b ae az D).2 u).elim
  ·rw[O l g5 g6] at u;exact((ai l en b g6 g7 u).1 D).elim
  ·rw[O l g5 g6] at u;exact((ai l en b g6 g7 u).2 D).elim
  ·rw[O l g5 g6] at u;rw[O l' ay ae] at D;exact hc.inj l l' en aj b g7 az u D) (by
  intro L l en h;have hsame:∀c,c≠b->(w.heap.setIfInBounds b (.map G aa))[c]? =w.heap[c]? :=ap.2;rcases hl l en h with⟨rfl,rfl⟩|⟨rfl,rfl⟩|⟨bx,bd,a0⟩
  ·rw[X];show arrOk T2 e r.2.2 _ _ v;rcases ab with⟨C,H,_⟩|⟨C,_,ad⟩
   ·exact .inl ⟨H,C⟩
   ·rw[ad] at T;refine(A.rows.ok r.2.1 r.2.2 v (by simp) (by simpa using C) T).mono L (fun c u=>hsame c (ah c u).2)
  ·rw[ri];refine⟨b,G,aa,h3,ap.1,⟨bt _ _ L,⟨by simp[bb],?_,?_,?_⟩,fun _=>bu⟩,fun q z=>?_⟩
   ·intro q xs vq ho R z;have ac:q≠r.2.1:=fun e=>ho (by rw[e]);have:(m.map (·.2))[q]? =some xs/\(B.toList.map (·.val))[q]? =some vq:=by
     rcases ab with⟨_,_,C⟩|⟨_,C,H⟩
     ·obtain⟨H,ad⟩:=C q ac;rw[ad] at z;rw[aBl,H,<-aBl] at R;exact⟨R,z⟩
     ·rw[C] at R;rw[H] at z;exact⟨R,z⟩
    exact(A.rows.ok q xs vq (by simp) this.1 this.2).mono L (fun c u=>hsame c fun e=>by
     have:=(A.rows.own q vq c (by simp) this.2 u).2;exact this (by rw[e]))
   ·intro q vq c ho z u;have ac:q≠r.2.1:=fun e=>ho (by rw[e]);have I:(B.toList.map (·.val))[q]? =some vq:=by
     rcases ab with⟨_,_,C⟩|⟨_,C,H⟩
     ·rw[<-(C q ac).2];exact z
     ·rw[<-H];exact z
    obtain⟨k1,k2⟩:=A.rows.own q vq c (by simp) I u;refine⟨⟨k1,fun au=>?_⟩,k2⟩;rcases ab with⟨C,_⟩|⟨_,C,H⟩
    ·rw[C] at au;simp[blk] at au
    ·rw[H] at T;exact ac (A.rows.inj q r.2.1 vq v c (by simp) (by simp) I T u au)
   ·intro q Q vq a8 c ho bq z ak u a9;have ac:q≠r.2.1:=fun e=>ho (by rw[e]);have bo:Q≠r.2.1:=fun e=>bq (by rw[e]);rcases ab with⟨_,_,C⟩|⟨_,C,H⟩
    ·rw[(C q ac).2] at z;rw[(C Q bo).2] at ak;exact A.rows.inj q Q vq a8 c (by simp) (by simp) z ak u a9
    ·rw[H] at z ak;exact A.rows.inj q Q vq a8 c (by simp) (by simp) z ak u a9
   ·have:q=r.2.1:=by simpa using z.symm
    subst this;simp only[aAx,aDz,List.head?_cons,X];exact T
  ·rw[O l bx bd]
   exact Ent.ok_mono (hc.own l en a0) L (fun q z=>rv q fun e'=>by subst e';exact an.2.2 l en a0 z) (fun c u=>hsame c fun e=>bd (hc.inj l i en _ c a0 hd u (.inl (by rw[aq,e])))))
 refine⟨⟨ρ',q1,fun t s' S=>?_⟩,by rw[kG,bc],by cases d<;>exact bw⟩;have a5:∀t s,lk σ.g t=some s->s.ok ρ' (Un F.S0 ρ' ((j,.arr T2 e r.2.2)::(i,.dp (DE.mps true ke T2 e) (r.1,some r.2.1) [j])::σ.d)) _ (a.tmps.getD t undef):=fun t s S=>
  Slot.ok_mono s _ (hs t s S) q2 (fun q z=>rv q fun e'=>an.1 t s S (e' ▸ z))
 cases d with
 |none=>exact a5 t s' S
 |some q=>
  simp only[hX] at S;have bp:q<a.tmps.size:=by rw[bc];exact aAd hdst
  rw[kH a q _ t bp];rw[lK] at S;split at S
  ·rename_i A;cases S;rw[aAn A];simp only[Slot.ok];refine⟨[v,.int .i64 (r.2.1:Int)],rfl,v,[.int .i64 (r.2.1:Int)],rfl,?_,_,[],rfl,?_,rfl⟩
   ·simp only[Slot.ok];exact⟨by rw[X];exact .inl ⟨_,_,_,bv⟩,by rw[X];rfl⟩
   ·simp only[Slot.ok];exact Dc.2 ⟨rfl,bk⟩
  ·rename_i A;rw[aAj A];exact a5 t s' S
theorem JX[DecidableEq κ]{k:κ}{r:List (κ×List α)×Nat×List α}(h:Qx m k=some r):r.2.1<r.1.length:=by
 unfold Qx at h;split at h
 ·have h:=pT h;cases hk:kp (m.map (·.1)) k with
  |none=>rw[hk] at h;subst h;simp
  |some q=>rw[hk] at h;subst h;have:=(FB hk).1;simpa using this
 ·cases h
theorem No{M:TypeId}{ys:List α}{q:Nat}{ls:List Nat}(hq:q<m.length)(hx:cK σ.g x=some (.ref i))(hd:aW σ.d i=some (.dp (DE.mps true ke T2 e) (m,some q) ls))(hy:cK σ.g y=some (.v (Enc.int .i64) (q:Int)))(hz:cK σ.g z=some (.ref j))(hj:aW σ.d j=some (.arr T2 e ys))(hne:Nat.beq i j=false):
  JM F ⟨none,.entryStore M x y z,ty,p,af,gd⟩ σ ⟨σ.g,(i,.dp (DE.mps true ke T2 e) (vF m q ys,none) [])::vE σ.d j⟩:=by
 have ad:i≠j:=fun e=>by subst e;simp at hne
 rintro a w ⟨⟨ρ,H,hs⟩,a8,a9⟩;have K:=bT H hs (Op.entryStore M x y z).operands;obtain⟨h1,⟨b,E,ck,h3,h4,L,_⟩,_⟩:=xO K (x:=x) (by simp[Op.operands]) hx hd;have h6:=(fB K (x:=y) (by simp[Op.operands]) hy).1;obtain⟨h7,ae,_⟩:=xO K (x:=z) (by simp[Op.operands]) hz hj;have ae:arrOk T2 e ys (Un F.S0 ρ σ.d) w (ρ j).v:=ae;obtain⟨a7,aw⟩:=L.born rfl;have ay:E.toList.length=m.length:=by simpa using L.keys.len
 have S:q<E.size:=by
  have:E.toList.length=E.size:=by simp
  omega
 have hg:=MapKept.run_getObj_map (P:=F.P) h4;have az:=fun o=>MapKept.run_setObj_map (P:=F.P) o h4;have ap:∀(j:Nat) (h:j<E.size),E[j].born=j:=fun j h=>aw j _ (by simp[h]);have a0:E.findIdx? (fun e=>(e.born:Int)==(q:Int))=some q:=by
  rw[Array.findIdx?_eq_some_iff_getElem];exact⟨S,by simp[ap q S],fun j hj=>by simp[ap j (by omega)];omega⟩
 obtain⟨N,ab⟩:∃N,N=E.modify q fun e=>{ e with val:=(ρ j).v }:=⟨_,rfl⟩
 have a1:(execOp a.eval ⟨none,.entryStore M x y z,ty,p,af,gd⟩).run F.P w= .ok .skip { w with heap:=w.heap.setIfInBounds b (.map N ck) }:=by
  simp only[execOp,h1,h3,h6,h7,Instr.entryStore,Sem.run_bind,hg,Result.andThen_ok,asInt,asIntOf,Sem.run_pure,a0,az,ab]
 have ac:N.toList.map (·.val)=(E.toList.map (·.val)).set q (ρ j).v:=by
  rw[ab,aCh];apply aCb;intro B;simp only[aBl,aB6,aCp,aBp];by_cases I:B<E.toList.length
  ·rw[aAg I];by_cases hi:q=B<;>simp[hi];omega
  ·rw[aAv (by omega)];by_cases hi:q=B<;>simp[hi];simp at I;omega
 have a2:∀S' w',KsL ke S' w' (m.map (·.1)) E.toList->KsL ke S' w' (m.map (·.1)) N.toList:=by
  intro S' w' h;rw[ab,aCh];refine KsL.modify h fun k x hk C=>?_;have:=h.get hk C;exact this
 have ah:=MapKept.heap_set (o':= .map N ck) h4;have a3:Chg (some b) w { w with heap:=w.heap.setIfInBounds b (.map N ck) }:=⟨by simp,fun k _ hk=>ah.2 k (fun e=>hk (by rw[e])),rfl,rfl,rfl⟩
 have ai:blk (ρ i).v=some b:=by rw[h3];rfl
 have aq:∀c,pV (ρ j) c->c≠b:=fun c a6 e=>ad (H.inj i j _ _ c hd hj (.inl (by rw[ai,e])) a6);refine OpWp.skip a1 ?_;let ρ':Nat->LV:=fun l=>if l=i then ⟨(ρ i).v,fun b=>(ρ i).x b\/pV (ρ j) b⟩ else ρ l
 have ri:ρ' i=⟨(ρ i).v,fun b=>(ρ i).x b\/pV (ρ j) b⟩:=aAn rfl;have Q:∀l,l≠i->ρ' l=ρ l:=fun l h=>aAj h;have rv:∀l,(ρ' l).v=(ρ l).v:=fun l=>by
  by_cases h2:l=i
  ·subst h2;rw[ri]
  ·rw[Q l h2]
 have hl:∀l A,aW ((i,.dp (DE.mps true ke T2 e) (vF m q ys,none) [])::vE σ.d j) l=some A->(l=i/\A= .dp (DE.mps true ke T2 e) (vF m q ys,none) [])\/(l≠i/\l≠j/\aW σ.d l=some A):=by
  intro l A h;rcases Gh h with h |⟨h0,h⟩
  ·exact .inl h
  ·rw[Jy] at h;split at h
   ·cases h
   ·rename_i h6;exact .inr ⟨h0,h6,h⟩
 have a4:∀l A b,aW ((i,.dp (DE.mps true ke T2 e) (vF m q ys,none) [])::vE σ.d j) l=some A->pV (ρ' l) b->∃l0 en0,aW σ.d l0=some en0/\pV (ρ l0) b:=by
  intro l A b h u;rcases hl l A h with⟨rfl,rfl⟩|⟨h6,_,h7⟩
  ·rw[ri,Ld] at u;rcases u with u | u | u
   ·exact⟨l,_,hd,.inl u⟩
   ·exact⟨l,_,hd,.inr u⟩
   ·exact⟨j,_,hj,u⟩
  ·rw[Q l h6] at u;exact⟨l,A,h7,u⟩
 have au:∀l A b,l≠i->l≠j->aW σ.d l=some A->pV (ρ l) b->¬pV (ρ' i) b:=by
  intro l A b av a5 ak u h;rw[ri,Ld] at h;rcases h with h | h | h
  ·exact av (H.inj l i A _ b ak hd u (.inl h))
  ·exact av (H.inj l i A _ b ak hd u (.inr h))
  ·exact a5 (H.inj l j A _ b ak hj u h)
 obtain⟨U,V⟩:=H.step a3 (fun c u=>⟨i,_,hd,.inl (by rw[ai];exact u)⟩) (d':=(i,.dp (DE.mps true ke T2 e) (vF m q ys,none) [])::vE σ.d j) (ρ':=ρ') (fun l A b h u=> .inr (a4 l A b h u)) (by
  intro l l' A al b g g' u aa;rcases hl l A g with⟨rfl,rfl⟩|⟨g6,g7,g8⟩<;>rcases hl l' al g' with⟨rfl,rfl⟩|⟨ao,ba,ax⟩
  ·rfl
  ·rw[Q l' ao] at aa;exact(au l' al b ao ba ax aa u).elim
  ·rw[Q l g6] at u;exact(au l A b g6 g7 g8 u aa).elim
  ·rw[Q l g6] at u;rw[Q l' ao] at aa;exact H.inj l l' A al b g8 ax u aa) (by
  intro hE l A g;have aj:∀c,c≠b->(w.heap.setIfInBounds b (.map N ck))[c]? =w.heap[c]? :=ah.2;rcases hl l A g with⟨rfl,rfl⟩|⟨g6,g7,g8⟩
  ·rw[ri];refine⟨b,N,ck,h3,ah.1,⟨?_,⟨?_,fun B xs v _ C D=>?_,fun B v c _ D u=>?_,fun U V v1 v2 c _ _ X R am an=>?_⟩,fun _=>⟨by rw[ab];simpa using a7,fun B x' I=>?_⟩⟩,fun q hq=>by cases hq⟩
   ·show KsL ke _ _ ((vF m q ys).map (·.1)) _;rw[FD];exact a2 _ _ (L.keys.mono hE)
   ·rw[ac];simp[vF];simpa using ay
   ·have C:((vF m q ys).map (·.2))[B]? =some xs:=C;rw[FE] at C;rw[ac] at D;by_cases O:B=q
    ·subst O;have T:xs=ys:=by simpa[aCp,hq] using C.symm
     have G:v=(ρ j).v:=by
      rw[aB1 (by simpa using S)] at D;exact(pT D).symm
     subst T;subst G;exact ae.mono hE (fun c u=>aj c (aq c (.inl u)))
    ·rw[aBo (aC9 O)] at C D;refine(L.rows.ok B xs v (by simpa using fun e=>O e.symm) C D).mono hE (fun c u=>aj c fun e=>?_);exact(L.rows.own B v c (by simpa using fun e=>O e.symm) D u).2 (by rw[e])
   ·rw[ac] at D;by_cases O:B=q
    ·subst O;rw[aB1 (by simpa using S)] at D;have G:=pT D;subst G;exact⟨.inr (.inl u),fun e=>aq c (.inl u) (pT e).symm⟩
    ·rw[aBo (aC9 O)] at D;obtain⟨k1,k2⟩:=L.rows.own B v c (by simpa using fun e=>O e.symm) D u;exact⟨.inl k1,k2⟩
   ·rw[ac] at X R;by_cases T:U=q
    ·subst T;rw[aB1 (by simpa using S)] at X;have e3:=pT X;subst e3;by_cases G:V=U
     ·exact G.symm
     ·rw[aBo (aC9 G)] at R;obtain⟨k1,_⟩:=L.rows.own V v2 c (by simpa using fun e=>G e.symm) R an;exact(ad (H.inj l j _ _ c hd hj (.inr k1) (.inl am))).elim
    ·rw[aBo (aC9 T)] at X;by_cases G:V=q
     ·subst G;rw[aB1 (by simpa using S)] at R;have e3:=pT R;subst e3;obtain⟨k1,_⟩:=L.rows.own U v1 c (by simpa using fun e=>T e.symm) X am;exact(ad (H.inj l j _ _ c hd hj (.inr k1) (.inl an))).elim
     ·rw[aBo (aC9 G)] at R;exact L.rows.inj U V v1 v2 c (by simpa using fun e=>T e.symm) (by simpa using fun e=>G e.symm) X R am an
   ·rw[ab,aCh,aB6] at I;cases C:E.toList[B]? with
    |none=>rw[C] at I;cases I
    |some y'=>
     rw[C] at I;have:=aw B y' C;simp only[Option.map_eq_map,aBu,aAk] at I;subst I;split<;>exact this
  ·rw[Q l g6]
   exact Ent.ok_mono (H.own l A g8) hE (fun q _=>rv q) (fun c u=>aj c fun e=>g6 (H.inj l i A _ c g8 hd u (.inl (by rw[ai,e])))))
 exact⟨⟨ρ',U,fun t s ht=>Slot.ok_mono s _ (hs t s ht) V (fun q _=>rv q)⟩,a8,a9⟩
end
end Go.Sw
namespace Go.Sw
open Go Go.RowKit
section
variable {F:Frm}{σ σ':AS}{ops:Array Oper}{OK:List (Nat×Ent)->Prop}{os:List Oper}{its:List Itm4}{d:Option Tmp}{ty:TypeId}{p:String}{af:Array Edge}{gd:Option (Nat×Bool)}{x y z:Operand}{κ α:Type}{ke:Enc κ}{e:Enc α}{T2:TypeId}{m:List (κ×List α)}{i:Nat}
theorem JP4.mapEntry[DecidableEq κ]{n n' l:Nat}{M KT VT E:TypeId}{k:κ}{r:List (κ×List α)×Nat×List α}(g:GK ops σ.g ⟨d,.mapEntry M x y,ty,p,af,gd⟩ true)(j:Nat)(hm:Qx m k=some r)(hx:cK σ.g x=some (.ref i))(hd:aW σ.d i=some (.dp (DE.mps true ke T2 e) (m,none) []))(hy:cK σ.g y=some (.v ke k))
  (hM:∀w,(underlying M).run F.P w= .ok (.map KT VT) w) (hT:∀w,(underlying KT).run F.P w= .ok (.array l E) w) (he:EqE n F.P KT ke) (hn:Nat.ble n 10000=true) (hk:KeyE n' F.P KT ke) (hn':Nat.ble n' 10000=true) (hsame:SameE ke)
  (hz:∀w,(zeroValue VT).run F.P w= .ok (.slice none 0 0) w) (_:σ.free [(j,.arr T2 e r.2.2)]=true) (hdst:gA d F.N=true)
  (k:JP4 F ops OK os ⟨hX d (.tup [.ref j,.v (Enc.int .i64) (r.2.1:Int)]) σ.g,(j,.arr T2 e r.2.2)::(i,.dp (DE.mps true ke T2 e) (r.1,some r.2.1) [j])::σ.d⟩ its σ'):
  JP4 F ops OK (⟨d,.mapEntry M x y,ty,p,af,gd⟩::os) σ (⟨.tup [.ref j,.v (Enc.int .i64) (r.2.1:Int)],[(j,.arr T2 e r.2.2),(i,.dp (DE.mps true ke T2 e) (r.1,some r.2.1) [j])],[(j,.arr T2 e r.2.2)],Jm σ.g ⟨d,.mapEntry M x y,ty,p,af,gd⟩,[]⟩::its) σ':=
 .mv (nw:=[(j,.arr T2 e r.2.2),(i,.dp (DE.mps true ke T2 e) (r.1,some r.2.1) [j])]) (dl:=[]) g hdst (fun σ2 h u=>Tc j hm ((h.ev (by simp[Op.operands])).trans hx) ((h.ent (x:=x) (by simp[Op.operands]) hx (by simp[Slot.lab])).trans hd) ((h.ev (by simp[Op.operands])).trans hy) hM hT he hn hk hn' hsame hz u hdst) k
end
def jW:Enc Unit where
 n:=0
 agg:=true
 ok _ _ _ cs:=cs=[]
 len h:=by rw[h];rfl
 one h:=by cases h
 cell h c hc:=by rw[h] at hc;simp at hc
 mono h _:=h
theorem Li{F:Frm}{σ:AS}{o:Oper}{new:List (Nat×Ent)}(h:JO F o σ (.agg []) new):JO F o σ (.v jW ()) new:=by
 intro ρ S a w K;refine(h ρ S a w K).mono ?_;rintro v G ⟨ρ',C,D,z,E⟩;refine⟨ρ',C,D,?_,E⟩;simp only[Slot.ok] at z ⊢;obtain⟨A,B,u⟩:=z;have u:A=[]:=u;subst u;exact⟨[],rfl,B⟩
def JY:Enc Unit where
 n:=1
 agg:=false
 ok _ _ _ cs:=cs=[.nilIface]
 len h:=by rw[h];rfl
 one _:=rfl
 cell h c hc:=by rw[h] at hc;simp at hc;subst hc;rfl
 mono h _:=h
def uO{α β:Type}(T:TypeId)(e:Enc α)(r:Enc β)(hn:r.n=1)(_ha:r.agg=false):Enc (α ⊕ β) where
 n:=1
 agg:=false
 ok q S w cs:=match q with | .inl x=>∃u,cs=[.iface T (e.pk u)]/\e.ok x S w u | .inr y=>r.ok y S w cs
 len {q S w cs} h:=by
  cases q with
  |inl x=>obtain⟨u,h,_⟩:=h;rw[h];rfl
  |inr y=>rw[r.len h,hn]
 one _:=rfl
 cell {q S w cs} h:=by
  cases q with
  |inl x=>obtain⟨u,h,_⟩:=h;intro c z;rw[h] at z;simp at z;subst z;rfl
  |inr y=>exact r.cell h
 mono {q S S' w w' cs} h k:=by
  cases q with
  |inl x=>obtain⟨u,h,A⟩:=h;exact⟨u,h,e.mono A k⟩
  |inr y=>exact r.mono h k
def IfcIn{α β:Type}(T:TypeId)(e:Enc α)(z:α)(f:Enc β)(q:β):Prop:=∀S w v,e.val z S w v->f.val q S w (.iface T v)
theorem IfcIn.here{α β:Type}{T:TypeId}{e:Enc α}{z:α}{r:Enc β}{hn:r.n=1}{ha:r.agg=false}:IfcIn T e z (uO T e r hn ha) (.inl z):=by
 rintro S w v ⟨u,h,rfl⟩;exact⟨_,⟨u,rfl,h⟩,rfl⟩
theorem IfcIn.there{α β γ:Type}{T T':TypeId}{e:Enc α}{e':Enc γ}{z:α}{r:Enc β}{hn:r.n=1}{ha:r.agg=false}{q:β}(h:IfcIn T e z r q):IfcIn T e z (uO T' e' r hn ha) (.inr q):=by
 intro S w v u;obtain⟨A,B,C⟩:=h S w v u;exact⟨A,B,by rw[C];simp[Enc.pk,uO,ha]⟩
section
variable {F:Frm}{σ:AS}{d:Option Tmp}{ty:TypeId}{p:String}{af:Array Edge}{gd:Option (Nat×Bool)}{x:Operand}
theorem Gl{α β:Type}{T:TypeId}{fs:Array Field}{e:Enc α}{z:α}{f:Enc β}{q:β}(hx:cK σ.g x=some (.v e z))(hT:∀w,(underlying T).run F.P w= .ok (.struct fs) w)(hI:IfcIn T e z f q):JO F ⟨d,.makeInterface T x,ty,p,af,gd⟩ σ (.v f q) []:=by
 intro ρ S a w K;have h:=K.slot x (by simp[Op.operands]) _ hx;simp only[Slot.ok] at h;refine OpWp.value (w':=w) (v:= .iface T (a.eval x)) ?_ (Res.same (by simp only[Slot.ok];exact hI _ _ _ h));simp[execOp,Instr.makeInterface,hT]
end
def IfcCon{β:Type}(P:Program)(name:String)(f:Enc β)(q:β)(ss:List Slot)(res:Slot)(new:List (Nat×Ent)):Prop:=
 ∀S w v,f.val q S w v->∃T u g s0,v= .iface T u/\(∀w,(method (P.types.size+Made.depth) T u name).run P w= .ok (g,u) w)/\(∀args w,(callFunc g args).run P w= .ok (.enter g args) w)/\(∀ρ,Slot.ok ρ S w s0 u)/\Con P g (s0::ss) res new
section
variable {P:Program}{name:String}{ss:List Slot}{res:Slot}{new:List (Nat×Ent)}
theorem IfcCon.here{α β:Type}{T:TypeId}{g:FuncId}{e:Enc α}{z:α}{r:Enc β}{hn:r.n=1}{ha:r.agg=false}(hm:∀u w,(method (P.types.size+Made.depth) T u name).run P w= .ok (g,u) w)(hc:∀args w,(callFunc g args).run P w= .ok (.enter g args) w)
  (h:Con P g (.v e z::ss) res new):IfcCon P name (uO T e r hn ha) (.inl z) ss res new:=by
 rintro S w v ⟨C,⟨A,rfl,B⟩,rfl⟩;exact⟨T,e.pk A,g,.v e z,rfl,hm _,hc,fun ρ=>by simp only[Slot.ok];exact⟨A,B,rfl⟩,h⟩
theorem IfcCon.there{β γ:Type}{T':TypeId}{e':Enc γ}{r:Enc β}{hn:r.n=1}{ha:r.agg=false}{q:β}(h:IfcCon P name r q ss res new):IfcCon P name (uO T' e' r hn ha) (.inr q) ss res new:=by
 rintro S w v ⟨u,z,rfl⟩;exact h S w _ ⟨u,z,by simp[Enc.pk,uO,ha]⟩
end
section
variable {F:Frm}{σ:AS}{d:Option Tmp}{ty:TypeId}{p:String}{af:Array Edge}{gd:Option (Nat×Bool)}{x:Operand}
theorem BI{β:Type}{name:String}{f:Enc β}{q:β}{xs:List Operand}{ts:Array TypeId}{ss:List Slot}{res:Slot}(hx:cK σ.g x=some (.v f q))(hc:IfcCon F.P name f q ss res [])(ha:Args σ false xs ss):
  JO F ⟨d,.call ⟨.invoke x name,xs.toArray,ts⟩,ty,p,af,gd⟩ σ res []:=by
 intro ρ S a w K;have z:=K.slot x (by simp[Op.operands,Call.operands]) _ hx;simp only[Slot.ok] at z;obtain⟨T,u,g,I,C,D,E,G,H⟩:=hc _ _ _ z;have A:=ha.spec (ys:=(Op.call ⟨.invoke x name,xs.toArray,ts⟩).operands) (by intro x hx;simp[Op.operands,Call.operands,hx]) K;have B:(execOp a.eval ⟨d,.call ⟨.invoke x name,xs.toArray,ts⟩,ty,p,af,gd⟩).run F.P w= .ok (.enter g (u::xs.map a.eval).toArray) w:=by
  simp[execOp,resolve,C,invoke,callMethod,D,E];exact aB0 (by simp)
 refine OpWp.enter B ?_;refine(H S w _ ρ K.low (by simp only[aV];exact⟨u,_,rfl,G ρ,A⟩)).mono ?_;rintro e L ⟨v,rfl,h⟩;exact⟨v,rfl,h⟩
end
end Go.Sw
namespace Go.Sw
open Go Go.RowKit
def uV{α β:Type}(o:Option α)(n:Option β)(s:α->Option β):Option β:=match o with | none=>n | some z=>s z
theorem uP{α β:Type}{o:Option α}{n:Option β}{s:α->Option β}{r:β}(h:o=none)(k:uV o n s=some r):n=some r:=by subst h;exact k
theorem uQ{α β:Type}{o:Option α}{n:Option β}{s:α->Option β}{r:β}{z:α}(h:o=some z)(k:uV o n s=some r):s z=some r:=by subst h;exact k
section
variable {F:Frm}{σ:AS}{d:Option Tmp}{ty:TypeId}{p:String}{af:Array Edge}{gd:Option (Nat×Bool)}{x:Operand}
end
section
variable {F:Frm}{ops:Array Oper}{OK:List (Nat×Ent)->Prop}{os:List Oper}{σ σ2 σ':AS}{its:List Itm4}{d:Option Tmp}{ty:TypeId}{p:String}{af:Array Edge}{gd:Option (Nat×Bool)}{o:Oper}
theorem Arg.loc{x:Operand}{s:Slot}{l:Bool}(h:Arg σ l x s)(hL:Loc ops o σ σ2)(hm:x∈o.op.operands):Arg σ2 l x s:=fun ρ S a w K=>
 h ρ S a w ⟨K.low,fun y u s z=>K.slot y u s (by
  have:y=x:=by simpa using u
  subst this;rw[hL.ev hm];exact z),fun y u s z i A B C=>K.ent y u s (by
   have:y=x:=by simpa using u
   subst this;rw[hL.ev hm];exact z) i A B (by
    have:y=x:=by simpa using u
    subst this;rw[hL.ent hm z A];exact C)⟩
theorem ArgsM.loc{r:Nat->Nat}{xs:List Operand}{l:List Slot}(h:ArgsM σ r xs l)(hL:Loc ops o σ σ2)(hm:∀x∈xs,x∈o.op.operands):ArgsM σ2 r xs l:=by
 induction h with
 |nil=>exact .nil
 |cons z _ A=>exact .cons (z.loc hL (hm _ aA6)) (A fun x u=>hm x (aAz _ u))
theorem DinR.loc{r A:Nat->Nat}{ds:List (Nat×Ent)}(h:DinR σ r A ds)(hd:∀l∈ds.map (fun x=>r x.1),aW σ2.d l=aW σ.d l):DinR σ2 r A ds:=by
 induction h with
 |nil=>exact .nil
 |box z _ B=>exact .box (by rw[hd _ (by simp)];exact z) (B fun l u=>hd l (by simp at u ⊢;exact .inr u))
 |arr z _ B=>exact .arr (by rw[hd _ (by simp)];exact z) (B fun l u=>hd l (by simp at u ⊢;exact .inr u))
 |mp z _ B=>exact .mp (by rw[hd _ (by simp)];exact z) (B fun l u=>hd l (by simp at u ⊢;exact .inr u))
 |dp z _ B=>exact .dp (by rw[hd _ (by simp)];exact z) (B fun l u=>hd l (by simp at u ⊢;exact .inr u))
theorem DoutR.loc{r A:Nat->Nat}{ds D:List (Nat×Ent)}{K:List Nat}(h:DoutR σ r A ds D K)(hd:∀l∈K,aW σ2.d l=aW σ.d l):DoutR σ2 r A ds D K:=by
 induction h with
 |nil=>exact .nil
 |box C _ u z=>exact .box (by rw[hd _ aA6];exact C) (z fun l B=>hd l (aAz _ B)) u
 |boxN _ u z=>exact .boxN (z hd) u
 |arr _ u z=>exact .arr (z hd) u
 |mp _ u z=>exact .mp (z hd) u
 |dp _ u z=>exact .dp (z hd) u
theorem JP4.callM{f:FuncId}{xs:List Operand}{ts:Array TypeId}{ss:List Slot}{res:Slot}{din dout:(Nat->Nat)->List (Nat×Ent)}{D:List (Nat×Ent)}{K H:List Nat}(g:GK ops σ.g ⟨d,.call ⟨.value (.func f),xs.toArray,ts⟩,ty,p,af,gd⟩ true)(r:Nat->Nat)(hr:∀i j,r i=r j->i=j)
  (hc:∀A,ConM F.P f ss (din A) res (dout A)) (hcall:∀args w,(callFunc f args).run F.P w= .ok (.enter f args) w) (ha:ArgsM σ r xs ss) (hin:∀A,DinR σ r A (din A)) (hout:∀A,DoutR σ r A (dout A) D K)
  (hH:∀A,(din A).map (fun x=>r x.1)=H) (hDK:D.all (fun x=> !gV x.1 H || gV x.1 K)=true) (_:Nl σ H D=true) (hcl:∀A,kJ res (dout A)=true) (hKH:K.all (fun k=>gV k H)=true) (hdst:gA d F.N=true)
  (k:JP4 F ops OK os ⟨hX d (res.map r) σ.g,D++iH σ.d H⟩ its σ'):
  JP4 F ops OK (⟨d,.call ⟨.value (.func f),xs.toArray,ts⟩,ty,p,af,gd⟩::os) σ (⟨res.map r,D,D.filter (fun x=> !gV x.1 H),Jm σ.g ⟨d,.call ⟨.value (.func f),xs.toArray,ts⟩,ty,p,af,gd⟩++H,H⟩::its) σ':=by
 refine .mvx (nw:=D) (fr:=D.filter (fun x=> !gV x.1 H)) (dl:=H) (ex:=H) g hdst (fun σ2 M I O=>?_) k;have L:∀x∈D,gV x.1 H=true->gV x.1 K=true:=fun x h C=>by
  have:=aAh.1 hDK x h;simpa[C] using this
 refine sZ r hr hc hcall (ha.loc M fun x h=>by simp[Op.operands,Call.operands,h]) (fun A=>(hin A).loc fun l z=>I l (by rw[<-hH A];exact z)) (fun A=>(hout A).loc fun l z=>I l (iK.1 (aAh.1 hKH l z))) hH ?_ ?_ hcl hKH hdst
 ·have E:∀l,(!gV l H || gV l K || !gV l (D.map (·.1)))=true:=by
   intro l;cases u:gV l H with
   |false=>simp
   |true=>
    cases h2:gV l (D.map (·.1)) with
    |false=>simp
    |true=>
     obtain⟨x,h,rfl⟩:=aBn.1 (iK.1 h2);simp[L x h u]
  unfold Ac;simp only[aAr,aAh];exact⟨fun y _ l _=>E l,fun y _ l _=>E l⟩
 ·unfold Nl;rw[aAh];intro x h;cases C:gV x.1 H with
  |true=>simp
  |false=>
   have u:=aAh.1 O x (aCj.2 ⟨h,by simp[C]⟩);simp only[aAr,aAh] at u;have G:∀l:List Nat,(!l.contains x.1)=true->(!gV x.1 l)=true:=by
    intro l z;cases h2:gV x.1 l with
    |false=>rfl
    |true=>have:=iK.1 h2;simp at z;exact absurd this z
   simp only[aCi,aAr,aAh];exact .inr ⟨fun y B=>⟨(u.2 y B).1,G _ (u.2 y B).2⟩,fun y B=>G _ (u.1 y B)⟩
end
end Go.Sw
namespace Go.Sw
open Go Go.RowKit
def Fa{κ β:Type}[DecidableEq κ](m:List (κ×β))(k:κ):List (κ×β):=match kp (m.map (·.1)) k with | some q=>m.eraseIdx q | none=>m
section
variable {F:Frm}{σ:AS}{d:Option Tmp}{ty:TypeId}{p:String}{af:Array Edge}{gd:Option (Nat×Bool)}{x y z:Operand}{κ α:Type}{ke:Enc κ}{e:Enc α}{T2:TypeId}{m:List (κ×List α)}{i j:Nat}{fr:Bool}
end
section
variable {F:Frm}{σ σ':AS}{ops:Array Oper}{OK:List (Nat×Ent)->Prop}{os:List Oper}{its:List Itm4}{d:Option Tmp}{ty:TypeId}{p:String}{af:Array Edge}{gd:Option (Nat×Bool)}{x y:Operand}{κ α:Type}{ke:Enc κ}{e:Enc α}{T2:TypeId}{m:List (κ×List α)}{i:Nat}{fr:Bool}
end
end Go.Sw
namespace Go.Sw
open Go Go.RowKit
def Enc.adr(a:Nat):Enc Unit where
 n:=1
 agg:=false
 ok _ _ _ cs:=cs=[.pointer (some ⟨a,0,none⟩)]
 len h:=by rw[h];rfl
 one _:=rfl
 cell h c hc:=by rw[h] at hc;simp at hc;subst hc;rfl
 mono h _:=h
def Enc.pt{α:Type}(e:Enc α):Enc α where
 n:=1
 agg:=false
 ok x S w cs:=∃b u z,cs=[.pointer (some ⟨b,u,none⟩)]/\b<w.heap.size/\¬S b/\MemAt w b u z/\e.ok x S w z
 len h:=by obtain⟨b,u,z,h,_⟩:=h;rw[h];rfl
 one _:=rfl
 cell h c hc:=by obtain⟨b,u,z,h,_⟩:=h;rw[h] at hc;simp at hc;subst hc;rfl
 mono h k:=by
  obtain⟨b,u,z,C,A,B,D,E⟩:=h;exact⟨b,u,z,C,aAy A k.size,(k.keep b A B).2,D.mono A B k,e.mono E k⟩
def Enc.fn2{α β:Type}(g:Nat)(ef:Enc α)(ec:Enc β):Enc (α×β) where
 n:=1
 agg:=false
 ok q S w cs:=∃u z,cs=[.func (.func g) u.toArray z.toArray]/\ef.ok q.1 S w u/\ec.ok q.2 S w z
 len h:=by obtain⟨u,z,h,_⟩:=h;rw[h];rfl
 one _:=rfl
 cell h c hc:=by obtain⟨u,z,h,_⟩:=h;rw[h] at hc;simp at hc;subst hc;rfl
 mono h k:=by obtain⟨u,z,h,A,B⟩:=h;exact⟨u,z,h,ef.mono A k,ec.mono B k⟩
def pL{α β:Type}(f:Enc α)(r:Enc β)(h1:f.n=1)(_h2:f.agg=false)(h3:r.n=1)(_h4:r.agg=false):Enc (α ⊕ β) where
 n:=1
 agg:=false
 ok q S w cs:=match q with | .inl x=>f.ok x S w cs | .inr y=>r.ok y S w cs
 len {q S w cs} h:=by
  cases q with
  |inl x=>rw[f.len h,h1]
  |inr y=>rw[r.len h,h3]
 one _:=rfl
 cell {q S w cs} h:=by
  cases q with
  |inl x=>exact f.cell h
  |inr y=>exact r.cell h
 mono {q S S' w w' cs} h k:=by
  cases q with
  |inl x=>exact f.mono h k
  |inr y=>exact r.mono h k
def SmIn{α β:Type}(e:Enc α)(z:α)(f:Enc β)(q:β):Prop:=∀S w v,e.val z S w v->f.val q S w v
theorem SmIn.self{α:Type}{e:Enc α}{z:α}:SmIn e z e z:=fun _ _ _ h=>h
theorem SmIn.l{α β γ:Type}{e:Enc γ}{z:γ}{f:Enc α}{r:Enc β}{h1:f.n=1}{h2:f.agg=false}{h3:r.n=1}{h4:r.agg=false}{q:α}(h:SmIn e z f q):SmIn e z (pL f r h1 h2 h3 h4) (.inl q):=by
 intro S w v u;obtain⟨A,B,C⟩:=h S w v u;exact⟨A,B,by rw[C];simp[Enc.pk,pL,h2]⟩
theorem SmIn.r{α β γ:Type}{e:Enc γ}{z:γ}{f:Enc α}{r:Enc β}{h1:f.n=1}{h2:f.agg=false}{h3:r.n=1}{h4:r.agg=false}{q:β}(h:SmIn e z r q):SmIn e z (pL f r h1 h2 h3 h4) (.inr q):=by
 intro S w v u;obtain⟨A,B,C⟩:=h S w v u;exact⟨A,B,by rw[C];simp[Enc.pk,pL,h4]⟩
section
variable {F:Frm}{σ:AS}{pb:Option Nat}{s:Slot}{d:Option Tmp}{ty:TypeId}{p:String}{af:Array Edge}{gd:Option (Nat×Bool)}{x y z:Operand}
def OpsE{α:Type}(σ:AS)(xs:List Operand)(e:Enc α)(v:α):Prop:=∀ρ S a w,Know σ xs.toArray ρ S a w->e.ok v S w (xs.map a.eval)
theorem OpsE.nil:OpsE σ [] jW ():=fun _ _ _ _ _=>rfl
theorem OpsE.adr{i c:Nat}{T:TypeId}{l:List Slot}(hx:cK σ.g x=some (.ptr i 0))(he:aW σ.d i=some (.box T l (some c))):OpsE σ [x] (Enc.adr c) ():=by
 intro ρ S a w K;have h:=K.slot x (by simp) _ hx;simp only[Slot.ok] at h;obtain⟨⟨b,B⟩,A⟩:=h;have u:=(K.ent x (by simp) _ hx i (by simp[Slot.lab]) _ he).1;have z:=u.2 c rfl;show [a.eval x]=_;rw[A,z];rfl
theorem OpsE.pst{α:Type}{e:Enc α}{v:α}(hx:cK σ.g x=some (.pst e v)):OpsE σ [x] (Enc.pt e) v:=by
 intro ρ S a w K;have h:=K.slot x (by simp) _ hx;simp only[Slot.ok] at h;obtain⟨b,u,z,A,B⟩:=h;exact⟨b,u,z,by simp[A],B⟩
theorem OpsE.cons{α β:Type}{e:Enc α}{e':Enc β}{v:α}{v':β}{xs:List Operand}(h:OpsE σ [x] e v)(k:OpsE σ xs e' v'):OpsE σ (x::xs) (Enc.pr e e') (v,v'):=by
 intro ρ S a w K
 exact⟨[a.eval x],xs.map a.eval,rfl,h ρ S a w ⟨K.low,fun q u=>K.slot q (by simp at u ⊢;exact .inl u),fun q u=>K.ent q (by simp at u ⊢;exact .inl u)⟩,
  k ρ S a w ⟨K.low,fun q u=>K.slot q (by simp at u ⊢;exact .inr u),fun q u=>K.ent q (by simp at u ⊢;exact .inr u)⟩⟩
theorem nE{α β γ:Type}{g:Nat}{ef:Enc α}{ec:Enc β}{u:α}{v:β}{f:Enc γ}{q:γ}{xs ys:List Operand}(hf:OpsE σ xs ef u)(hc:OpsE σ ys ec v)(hI:SmIn (Enc.fn2 g ef ec) (u,v) f q):
  JO F ⟨d,.makeFunc (.func g) xs.toArray ys.toArray,ty,p,af,gd⟩ σ (.v f q) []:=by
 intro ρ S a w K;have z:=hf ρ S a w ⟨K.low,fun r h=>K.slot r (by simp[Op.operands] at h ⊢;exact .inl h),fun r h=>K.ent r (by simp[Op.operands] at h ⊢;exact .inl h)⟩;have A:=hc ρ S a w ⟨K.low,fun r h=>K.slot r (by simp[Op.operands] at h ⊢;exact .inr h),fun r h=>K.ent r (by simp[Op.operands] at h ⊢;exact .inr h)⟩;refine OpWp.value (w':=w) (v:= .func (.func g) (xs.map a.eval).toArray (ys.map a.eval).toArray) (by simp[execOp,Instr.makeFunc]) (Res.same ?_);simp only[Slot.ok];exact hI _ _ _ ⟨_,⟨_,_,rfl,z,A⟩,rfl⟩
theorem Hv{T:TypeId}{i:Nat}(l:Nat)(hx:cK σ.g x=some (.ptr i 0))(hil:Nat.beq i l=false):JO F ⟨d,.box T x,ty,p,af,gd⟩ σ (.ptr l 0) [(l,.box T [.ptr i 0])]:=by
 intro ρ S a w K;have h:=K.slot x (by simp[Op.operands]) _ hx;have B:=h;simp only[Slot.ok] at h;obtain⟨⟨b,u⟩,A⟩:=h;rw[u] at A;have z:a.eval x= .pointer (some ⟨b,0,none⟩):=A;refine OpWp.value (w':=w.alloc (.cells [a.eval x].toArray T)) (v:= .pointer (some ⟨w.heap.size,0,none⟩)) (by simp[execOp,Instr.box,wK,z,Value.cells]) ?_;refine Res.box l ?_ (by simp[dF,Slot.lab,hil]);exact⟨[a.eval x],[],rfl,by simp only[Slot.okc];exact⟨⟨b,u⟩,by rw[z,u];rfl⟩,rfl⟩
theorem Zc{i:Nat}{T:TypeId}{l:List Slot}{cs:List Code}{Q:Exit->Act->World->Prop}(he:aW σ.d i=some (.box T l none))(h:∀c,W F cs ⟨σ.g,(i,.box T l (some c))::σ.d⟩ Q):W F cs σ Q:=by
 intro a w S;obtain⟨⟨ρ,A,ab⟩,hz,ac⟩:=S;have R:=A.own i _ he;obtain⟨⟨b,ad,L,h2,h3⟩,h4⟩:=R;refine h b a w ⟨⟨ρ,?_,?_⟩,hz,ac⟩
 ·have E:∀G z,aW ((i,Ent.box T l (some b))::σ.d) G=some z->(G=i/\z= .box T l (some b))\/(G≠i/\aW σ.d G=some z):=fun G z h=>Gh h;have H:Un F.S0 ρ ((i,Ent.box T l (some b))::σ.d)=Un F.S0 ρ σ.d:=by
   funext k;refine propext ⟨?_,?_⟩
   ·rintro (h |⟨j,z,u,D⟩)
    ·exact .inl h
    ·rcases E j z u with⟨rfl,_⟩|⟨_,u⟩
     ·exact .inr ⟨j,_,he,D⟩
     ·exact .inr ⟨j,_,u,D⟩
   ·rintro (h |⟨j,z,u,D⟩)
    ·exact .inl h
    ·by_cases K:j=i
     ·subst K;exact .inr ⟨j,.box T l (some b),by rw[bV,aAn rfl],D⟩
     ·exact .inr ⟨j,z,by rw[bV,aAj (aC9 K)];exact u,D⟩
  refine⟨A.low,A.size,A.frame,A.os,A.tape,A.output,?_,?_,?_,?_⟩
  ·intro j z u;show z.ok ρ (Un F.S0 ρ ((i,Ent.box T l (some b))::σ.d)) w (ρ j);rw[H];rcases E j z u with⟨rfl,rfl⟩|⟨_,u⟩
   ·exact⟨⟨b,ad,L,h2,h3⟩,fun c aa=>by cases aa;exact L⟩
   ·exact A.own j z u
  ·intro j z B u C;rcases E j z u with⟨rfl,rfl⟩|⟨_,u⟩
   ·exact A.fresh j _ B he C
   ·exact A.fresh j z B u C
  ·intro j U z V B u X I C;rcases E j z u with⟨M,_⟩|⟨_,N⟩<;>rcases E U V X with⟨O,_⟩|⟨_,P⟩
   ·rw[M,O]
   ·subst M;exact A.inj _ _ _ _ B he P I C
   ·subst O;exact A.inj _ _ _ _ B N he I C
   ·exact A.inj _ _ _ _ B N P I C
  ·intro j z B u C;rcases E j z u with⟨rfl,rfl⟩|⟨_,u⟩
   ·exact A.apart j _ B he C
   ·exact A.apart j z B u C
 ·intro t s ht
  have H:Ext (Un F.S0 ρ σ.d) (Un F.S0 ρ ((i,Ent.box T l (some b))::σ.d)) w w:=⟨aAi _,fun k _ hk=>⟨rfl,fun h=>hk (by
   rcases h with h |⟨j,z,u,D⟩
   ·exact .inl h
   ·rcases Gh u with⟨rfl,_⟩|⟨_,u⟩
    ·exact .inr ⟨j,_,he,D⟩
    ·exact .inr ⟨j,_,u,D⟩)⟩⟩
  exact Slot.ok_mono s _ (ab t s ht) H (fun _ _=>rfl)
end
def CloS{α:Type}(pins:List (Nat×Nat))(e:Enc α)(v:α)(ss:List Slot):Prop:=∀ρ S w cs,(∀p∈pins,(ρ p.1).v= .pointer (some ⟨p.2,0,none⟩))->e.ok v S w cs->aV ρ S w ss cs
theorem CloS.nil{pins:List (Nat×Nat)}:CloS pins jW () []:=fun _ _ _ _ _ h=>h
theorem CloS.adr{pins:List (Nat×Nat)}{i c:Nat}(h:(i,c)∈pins):CloS pins (Enc.adr c) () [.ptr i 0]:=by
 intro ρ S w cs hp u;have u:cs=[.pointer (some ⟨c,0,none⟩)]:=u;subst u;have:=hp _ h;exact⟨_,[],rfl,by simp only[Slot.ok];exact⟨⟨c,this⟩,by rw[this];rfl⟩,rfl⟩
theorem CloS.pt{pins:List (Nat×Nat)}{α:Type}{e:Enc α}{v:α}:CloS pins (Enc.pt e) v [.pst e v]:=by
 rintro ρ S w A B ⟨b,u,z,rfl,h⟩;exact⟨_,[],rfl,by simp only[Slot.ok];exact⟨b,u,z,rfl,h⟩,rfl⟩
theorem CloS.pr{pins:List (Nat×Nat)}{α β:Type}{e:Enc α}{e':Enc β}{v:α}{v':β}{s s':List Slot}(h:CloS pins e v s)(k:CloS pins e' v' s'):CloS pins (Enc.pr e e') (v,v') (s++s'):=by
 rintro ρ S w C u ⟨c,z,rfl,A,B⟩;exact Ab (h ρ S w c u A) (k ρ S w z u B)
def CloCon{β:Type}(P:Program)(pins:List (Nat×Nat))(f:Enc β)(q:β)(din:List (Nat×Ent))(res:Slot)(dout:List (Nat×Ent)):Prop:=
 ∀S w v,f.val q S w v->∃g fs gs ss,v= .func (.func g) fs.toArray gs.toArray/\(∀args w,(callFunc g args).run P w= .ok (.enter g args) w)/\(∀ρ,(∀p∈pins,(ρ p.1).v= .pointer (some ⟨p.2,0,none⟩))->aV ρ S w ss (fs++gs))/\ConM P g ss din res dout
section
variable {P:Program}{pins:List (Nat×Nat)}{din dout:List (Nat×Ent)}{res:Slot}
theorem CloCon.fn2{α β:Type}{g:Nat}{ef:Enc α}{ec:Enc β}{q:α×β}{s s':List Slot}(h:CloS pins ef q.1 s)(k:CloS pins ec q.2 s')(hc:∀args w,(callFunc g args).run P w= .ok (.enter g args) w)(hm:ConM P g (s++s') din res dout):CloCon P pins (Enc.fn2 g ef ec) q din res dout:=by
 rintro S w v ⟨D,⟨z,A,rfl,B,C⟩,rfl⟩;exact⟨g,z,A,_,rfl,hc,fun ρ u=>Ab (h ρ S w z u B) (k ρ S w A u C),hm⟩
theorem CloCon.l{α β:Type}{f:Enc α}{r:Enc β}{h1:f.n=1}{h2:f.agg=false}{h3:r.n=1}{h4:r.agg=false}{q:α}(h:CloCon P pins f q din res dout):CloCon P pins (pL f r h1 h2 h3 h4) (.inl q) din res dout:=by
 rintro S w v ⟨u,z,A⟩;exact h S w v ⟨u,z,by rw[A];simp[Enc.pk,pL,h2]⟩
theorem CloCon.r{α β:Type}{f:Enc α}{r:Enc β}{h1:f.n=1}{h2:f.agg=false}{h3:r.n=1}{h4:r.agg=false}{q:β}(h:CloCon P pins r q din res dout):CloCon P pins (pL f r h1 h2 h3 h4) (.inr q) din res dout:=by
 rintro S w v ⟨u,z,A⟩;exact h S w v ⟨u,z,by rw[A];simp[Enc.pk,pL,h4]⟩
end
section
variable {F:Frm}{σ:AS}{d:Option Tmp}{ty:TypeId}{p:String}{af:Array Edge}{gd:Option (Nat×Bool)}{x:Operand}
theorem BJ{P:Program}{g:FuncId}{ts:Array TypeId}{a:Act}{w:World}{fs gs:List Value}(hx:a.eval x= .func (.func g) fs.toArray gs.toArray)(hcall:∀args w,(callFunc g args).run P w= .ok (.enter g args) w):
  (execOp a.eval ⟨d,.call ⟨.value x,#[],ts⟩,ty,p,af,gd⟩).run P w= .ok (.enter g (fs++gs).toArray) w:=by
 simp[execOp,resolve,hx,Deferred.ofValue,invoke,hcall]
def PinsOk(σ:AS)(r:Nat->Nat):List (Nat×Nat)->Prop
 | []=>True
 |q::l=>(∃T s,aW σ.d (r q.1)=some (.box T s (some q.2)))/\PinsOk σ r l
theorem PinsOk.at{σ:AS}{r:Nat->Nat}:∀{pins:List (Nat×Nat)},PinsOk σ r pins->∀q∈pins,∃T s,aW σ.d (r q.1)=some (.box T s (some q.2))
 |_::_,h,q,u=>by
  rcases aAo.1 u with rfl | u
  ·exact h.1
  ·exact PinsOk.at h.2 q u
theorem Lj{β:Type}{f:Enc β}{q:β}{ts:Array TypeId}{res:Slot}{din dout:(Nat->Nat)->List (Nat×Ent)}{D:List (Nat×Ent)}{K H:List Nat}(pins:List (Nat×Nat))(r:Nat->Nat)(hr:∀i j,r i=r j->i=j)(hx:cK σ.g x=some (.v f q))(hp:PinsOk σ r pins)
  (hc:∀A,(∀p∈pins,A p.1=p.2)->CloCon F.P pins f q (din A) res (dout A)) (hin:∀A,DinR σ r A (din A)) (hout:∀A,DoutR σ r A (dout A) D K)
  (hH:∀A,(din A).map (fun x=>r x.1)=H) (hst:Ac σ.g (iH σ.d H) H K D=true) (hnew:Nl σ H D=true) (hcl:∀A,kJ res (dout A)=true) (hKH:K.all (fun k=>gV k H)=true) (hdst:gA d F.N=true):
  JM F ⟨d,.call ⟨.value x,#[],ts⟩,ty,p,af,gd⟩ σ ⟨hX d (res.map r) σ.g,D++iH σ.d H⟩:=by
 rintro a w ⟨⟨ρ,z,V⟩,hz,ad⟩;let A:Nat->Nat:=fun i=>adr (ρ (r i)).v
 have L:∀i b,(ρ (r i)).v= .pointer (some ⟨b,0,none⟩)->A i=b:=fun i b h=>by show adr (ρ (r i)).v=b;rw[h];rfl
 have R:∀q∈pins,(ρ (r q.1)).v= .pointer (some ⟨q.2,0,none⟩):=fun q hq=>by
  obtain⟨T,s,h⟩:=hp.at q hq;exact(z.own _ _ h).2 _ rfl
 have C:=(hin A).spec z.own L;have X:∀k,(Un F.S0 ρ σ.d k/\¬lQ (fun i=>ρ (r i)) (din A) k)->k<w.heap.size:=by
  rintro k ⟨h |⟨i,u,E,G⟩,_⟩
  ·exact aAy (z.low k h) z.size
  ·exact(z.fresh i u k E G).2
 have S:Un (fun k=>Un F.S0 ρ σ.d k/\¬lQ (fun i=>ρ (r i)) (din A) k) (fun i=>ρ (r i)) (din A)=Un F.S0 ρ σ.d:=by
  funext k;refine propext ⟨fun h=>?_,fun h=>?_⟩
  ·rcases h with h |⟨i,u,E,G⟩
   ·exact h.1
   ·obtain⟨⟨O,B⟩,_⟩:=C i u E;exact .inr ⟨r i,O,B,G⟩
  ·by_cases I:lQ (fun i=>ρ (r i)) (din A) k
   ·exact .inr I
   ·exact .inl ⟨h,I⟩
 have aa:Ins (fun k=>Un F.S0 ρ σ.d k/\¬lQ (fun i=>ρ (r i)) (din A) k) (fun i=>ρ (r i)) w (din A):=by
  refine⟨fun i u h=>?_,fun i u b h M=>?_,fun i u b h M h'=>h'.2 ⟨i,u,h,M⟩,fun i j u ab b hi hj bi bj=>?_⟩
  ·rw[S];exact(C i u h).2
  ·obtain⟨⟨O,B⟩,_⟩:=C i u h;exact(z.fresh _ _ b B M).2
  ·obtain⟨⟨O,B⟩,_⟩:=C i u hi;obtain⟨⟨ae,Q⟩,_⟩:=C j ab hj;exact hr _ _ (z.inj _ _ _ _ b B Q bi bj)
 have K:=bT z V (Op.call ⟨.value x,#[],ts⟩).operands;have U:=K.slot x (by simp[Op.operands,Call.operands]) _ hx;simp only[Slot.ok] at U;obtain⟨g,fs,gs,ss,E,G,B,Q⟩:=hc A (fun p ac=>L _ _ (R p ac)) _ _ _ U;refine OpWp.enter (BJ E G) ((Q _ w _ _ X aa (by rw[S];exact B _ R)).mono ?_);rintro e w' ⟨v,ρ',rfl,I⟩;exact⟨v,rfl,St.callM hr z V hz ad L (hin A) (hout A) (hH A) hst hnew (hcl A) hKH hdst I⟩
theorem Hw{f:FuncId}{xs:List Operand}{ts:Array TypeId}{ss:List Slot}{res:Slot}{din dout:(Nat->Nat)->List (Nat×Ent)}{D:List (Nat×Ent)}{K H:List Nat}(pins:List (Nat×Nat))(r:Nat->Nat)(hr:∀i j,r i=r j->i=j)(hp:PinsOk σ r pins)
  (hc:∀A,(∀p∈pins,A p.1=p.2)->ConM F.P f ss (din A) res (dout A)) (hcall:∀args w,(callFunc f args).run F.P w= .ok (.enter f args) w) (ha:ArgsM σ r xs ss) (hin:∀A,DinR σ r A (din A)) (hout:∀A,DoutR σ r A (dout A) D K)
  (hH:∀A,(din A).map (fun x=>r x.1)=H) (hst:Ac σ.g (iH σ.d H) H K D=true) (hnew:Nl σ H D=true) (hcl:∀A,kJ res (dout A)=true) (hKH:K.all (fun k=>gV k H)=true) (hdst:gA d F.N=true):
  JM F ⟨d,.call ⟨.value (.func f),xs.toArray,ts⟩,ty,p,af,gd⟩ σ ⟨hX d (res.map r) σ.g,D++iH σ.d H⟩:=by
 rintro a w ⟨⟨ρ,z,R⟩,hz,ac⟩;let A:Nat->Nat:=fun i=>adr (ρ (r i)).v
 have G:∀i b,(ρ (r i)).v= .pointer (some ⟨b,0,none⟩)->A i=b:=fun i b h=>by show adr (ρ (r i)).v=b;rw[h];rfl
 have S:∀q∈pins,(ρ (r q.1)).v= .pointer (some ⟨q.2,0,none⟩):=fun q hq=>by
  obtain⟨T,s,h⟩:=hp.at q hq;exact(z.own _ _ h).2 _ rfl
 have B:=(hin A).spec z.own G;have U:∀k,(Un F.S0 ρ σ.d k/\¬lQ (fun i=>ρ (r i)) (din A) k)->k<w.heap.size:=by
  rintro k ⟨h |⟨i,u,M,O⟩,_⟩
  ·exact aAy (z.low k h) z.size
  ·exact(z.fresh i u k M O).2
 have Q:Un (fun k=>Un F.S0 ρ σ.d k/\¬lQ (fun i=>ρ (r i)) (din A) k) (fun i=>ρ (r i)) (din A)=Un F.S0 ρ σ.d:=by
  funext k;refine propext ⟨fun h=>?_,fun h=>?_⟩
  ·rcases h with h |⟨i,u,M,O⟩
   ·exact h.1
   ·obtain⟨⟨L,C⟩,_⟩:=B i u M;exact .inr ⟨r i,L,C,O⟩
  ·by_cases E:lQ (fun i=>ρ (r i)) (din A) k
   ·exact .inr E
   ·exact .inl ⟨h,E⟩
 have V:Ins (fun k=>Un F.S0 ρ σ.d k/\¬lQ (fun i=>ρ (r i)) (din A) k) (fun i=>ρ (r i)) w (din A):=by
  refine⟨fun i u h=>?_,fun i u b h I=>?_,fun i u b h I h'=>h'.2 ⟨i,u,h,I⟩,fun i j u aa b hi hj bi bj=>?_⟩
  ·rw[Q];exact(B i u h).2
  ·obtain⟨⟨L,C⟩,_⟩:=B i u h;exact(z.fresh _ _ b C I).2
  ·obtain⟨⟨L,C⟩,_⟩:=B i u hi;obtain⟨⟨ad,h4⟩,_⟩:=B j aa hj;exact hr _ _ (z.inj _ _ _ _ b C h4 bi bj)
 have K:=bT z R (Op.call ⟨.value (.func f),xs.toArray,ts⟩).operands;have X:=ha.spec (ys:=(Op.call ⟨.value (.func f),xs.toArray,ts⟩).operands) (fun x hx=>by simp[Op.operands,Call.operands,hx]) K;refine OpWp.enter (sX hcall) ((hc A (fun p ab=>G _ _ (S p ab)) _ w _ _ U V (by rw[Q];exact X)).mono ?_);rintro e w' ⟨v,ρ',rfl,E⟩;exact⟨v,rfl,St.callM hr z R hz ac G (hin A) (hout A) (hH A) hst hnew (hcl A) hKH hdst E⟩
end
theorem CloCon.at2{β:Type}{P:Program}{e:Nat->Nat->Enc β}{q:β}{din dout:(Nat->Nat)->List (Nat×Ent)}{res:Slot}(a p:Nat)(h:∀A:Nat->Nat,CloCon P [(9000,A 9000),(9100,A 9100)] (e (A 9000) (A 9100)) q (din A) res (dout A)):
  ∀A:Nat->Nat,(∀z∈ [(9000,a),(9100,p)],A z.1=z.2)->CloCon P [(9000,a),(9100,p)] (e a p) q (din A) res (dout A):=by
 intro A u;have B:A 9000=a:=u (9000,a) (by simp);have C:A 9100=p:=u (9100,p) (by simp);subst B;subst C;exact h A
theorem ConM.at2{P:Program}{f:FuncId}{ss:Nat->Nat->List Slot}{din dout:(Nat->Nat)->List (Nat×Ent)}{res:Slot}(a p:Nat)(h:∀A:Nat->Nat,ConM P f (ss (A 9000) (A 9100)) (din A) res (dout A)):
  ∀A:Nat->Nat,(∀z∈ [(9000,a),(9100,p)],A z.1=z.2)->ConM P f (ss a p) (din A) res (dout A):=by
 intro A u;have B:A 9000=a:=u (9000,a) (by simp);have C:A 9100=p:=u (9100,p) (by simp);subst B;subst C;exact h A
end Go.Sw
namespace Go.Sw
open Go Go.RowKit
def subN{α:Type}(zs:List α)(lo hi m:Int):Option (List α):=if hi=m/\lo<hi then sub zs lo hi else none
theorem Hx{α:Type}{zs ys:List α}{lo hi m:Int}(h:subN zs lo hi m=some ys):hi=m/\lo<hi/\sub zs lo hi=some ys:=by
 unfold subN at h;split at h
 ·rename_i u;exact⟨u.1,u.2,h⟩
 ·cases h
theorem Zd{α:Type}{zs ys:List α}{lo hi m:Int}(h:subN zs lo hi m=some ys):ys≠ []:=by
 obtain⟨_,A,z⟩:=Hx h;obtain⟨a,b,c,rfl⟩:=gG z;intro u;have:=congrArg List.length u;simp at this;omega
theorem Td{P:Program}{w:World}{n:Nat}{k:IntKind}{lo:Int}(h0:0<=lo)(h1:lo<=n):(Instr.sliceBounds false n n (some (.int k lo)) none none).run P w= .ok (lo.toNat,n,n) w:=by
 simp[Instr.sliceBounds,Instr.sliceBound,asIntOf,h0,h1]
theorem Te{P:Program}{w:World}{n:Nat}{k k':IntKind}{hi:Int}(h0:0<=hi)(h1:hi<=n):(Instr.sliceBounds false n n none (some (.int k hi)) (some (.int k' hi))).run P w= .ok (0,hi.toNat,hi.toNat) w:=by
 have h:hi<=(hi.toNat:Int):=by omega
 simp only[Instr.sliceBounds,Instr.sliceBound,asIntOf,Sem.run_bind,Sem.run_pure,Result.andThen_ok,h0,h1,h,and_self,aBb]
theorem Wn{P:Program}{w:World}{U E:TypeId}{b off len m:Nat}{k:IntKind}{lo:Int}(h0:0<=lo)(h1:lo<len)(hU:∀w,(underlying U).run P w= .ok (.array len E) w)(hE:∀w,(sizeOf E).run P w= .ok m w):(Instr.sliceAt U (.pointer (some ⟨b,off,none⟩)) (some (.int k lo)) none none).run P w= .ok (.slice (some ⟨b,off+lo.toNat*m,none⟩) (len - lo.toNat) (len - lo.toNat)) w:=by
 have h:¬len=lo.toNat:=by omega
 have u:¬lo.toNat=len:=by omega
 simp[Instr.sliceAt,hU,hE,Instr.sureAddr,Td h0 (show lo<=(len:Int) by omega),h,Addr.add_lit]
theorem Wo{P:Program}{w:World}{U E:TypeId}{b off len m:Nat}{k k':IntKind}{hi:Int}(h0:0<hi)(h1:hi<=len)(hU:∀w,(underlying U).run P w= .ok (.array len E) w)(hE:∀w,(sizeOf E).run P w= .ok m w):(Instr.sliceAt U (.pointer (some ⟨b,off,none⟩)) none (some (.int k hi)) (some (.int k' hi))).run P w= .ok (.slice (some ⟨b,off,none⟩) hi.toNat hi.toNat) w:=by
 have h:Addr.add ⟨b,off,none⟩ 0=⟨b,off,none⟩:=by rw[Addr.add_lit];rfl
 have u:¬hi.toNat=0:=by omega
 simp[Instr.sliceAt,hU,hE,Instr.sureAddr,Te (aEb h0) h1,u,h]
section
variable {F:Frm}{σ:AS}{d:Option Tmp}{ty:TypeId}{p:String}{af:Array Edge}{gd:Option (Nat×Bool)}{x y z:Operand}
theorem Wp{α:Type}{e:Enc α}{zs ys:List α}{U E:TypeId}{len:Nat}{lo:Int}{k:IntKind}(hs:subN zs lo (len:Int) (len:Int)=some ys)(hx:cK σ.g x=some (.pst (Enc.arr len e) zs))(hy:cK σ.g y=some (.v (Enc.int k) lo))(hlen:Nat.ble len 4294967296=true)
  (hU:∀w,(underlying U).run F.P w= .ok (.array len E) w) (hE:∀w,(sizeOf E).run F.P w= .ok e.n w):JO F ⟨d,.slice U x (some y) none none,ty,p,af,gd⟩ σ (.v (Gi e) ys) []:=by
 intro ρ S a w K;have hlen:=aAd hlen;obtain⟨_,T,hs⟩:=Hx hs;obtain⟨H,s1,V,rfl⟩:=gG hs;have h:=K.slot x (by simp[Op.operands]) _ hx;have B:=(fB K (x:=y) (by simp[Op.operands]) hy).1;simp only[Slot.ok] at h;obtain⟨b,u,X,I,L,M,N,h5,O⟩:=h;have z:((zs.take (len:Int).toNat).drop lo.toNat).length=len - lo.toNat:=by rw[aA1,aAp];omega
 have C:(Enc.sl e).val ((zs.take (len:Int).toNat).drop lo.toNat) S w (.slice (some ⟨b,u+lo.toNat*e.n,none⟩) (len - lo.toNat) (len - lo.toNat)):=
  rJ.2 ⟨_,_,by rw[z],⟨by rw[z];omega,by rw[z];omega⟩,.inr ⟨b,u+lo.toNat*e.n,_,rfl,L,M,(N.take ((len:Int).toNat*e.n)).drop (lo.toNat*e.n),uU _ (rR _ O)⟩⟩
 refine OpWp.value (w':=w) (v:= .slice (some ⟨b,u+lo.toNat*e.n,none⟩) (len - lo.toNat) (len - lo.toNat)) ?_ (Res.same (by
  simp only[Slot.ok];obtain⟨Q,R,A⟩:=C;refine⟨Q,⟨R,fun a l c G=>?_⟩,A⟩;subst G;have D:(Value.slice (some ⟨b,u+lo.toNat*e.n,none⟩) (len - lo.toNat) (len - lo.toNat))= .slice a l c:=A;injection D with _ e1 e2
  omega))
 simp[execOp,I,B,Wn H (show lo<(len:Int) by omega) hU hE]
theorem BK{α:Type}{e:Enc α}{zs ys:List α}{U E:TypeId}{len:Nat}{hi m:Int}{k k':IntKind}(hs:subN zs 0 hi m=some ys)(hx:cK σ.g x=some (.pst (Enc.arr len e) zs))(hy:cK σ.g y=some (.v (Enc.int k) hi))(hz:cK σ.g z=some (.v (Enc.int k') m))(hlen:Nat.ble len 4294967296=true)
  (hU:∀w,(underlying U).run F.P w= .ok (.array len E) w) (hE:∀w,(sizeOf E).run F.P w= .ok e.n w):JO F ⟨d,.slice U x none (some y) (some z),ty,p,af,gd⟩ σ (.v (Gi e) ys) []:=by
 intro ρ S a w K;have hlen:=aAd hlen;obtain⟨rfl,L,hs⟩:=Hx hs;obtain⟨X,s1,s2,rfl⟩:=gG hs;have h:=K.slot x (by simp[Op.operands]) _ hx;have C:=(fB K (x:=y) (by simp[Op.operands]) hy).1;have D:=(fB K (x:=z) (by simp[Op.operands]) hz).1;simp only[Slot.ok] at h;obtain⟨b,u,ds,M,N,O,Q,h5,R⟩:=h;have A:((zs.take hi.toNat).drop (0:Int).toNat).length=hi.toNat:=by rw[aA1,aAp];simp only[Int.toNat_zero];omega
 have G:(Enc.sl e).val ((zs.take hi.toNat).drop (0:Int).toNat) S w (.slice (some ⟨b,u,none⟩) hi.toNat hi.toNat):=
  rJ.2 ⟨_,_,by rw[A],⟨by rw[A];omega,by rw[A];omega⟩,.inr ⟨b,u,_,rfl,N,O,Q.take (hi.toNat*e.n),by simpa using rR _ R⟩⟩
 refine OpWp.value (w':=w) (v:= .slice (some ⟨b,u,none⟩) hi.toNat hi.toNat) ?_ (Res.same (by
  simp only[Slot.ok];obtain⟨T,V,B⟩:=G;refine⟨T,⟨V,fun a l c I=>?_⟩,B⟩;subst I;have H:(Value.slice (some ⟨b,u,none⟩) hi.toNat hi.toNat)= .slice a l c:=B;injection H with _ e1 e2
  omega))
 simp[execOp,M,C,D,Wo L (show hi<=(len:Int) by omega) hU hE]
theorem Ou{α:Type}{e:Enc α}{zs ys:List α}{U E:TypeId}{len:Nat}{hi:Int}{k:IntKind}(hs:sub zs 0 hi=some ys)(hx:cK σ.g x=some (.pst (Enc.arr len e) zs))(hy:cK σ.g y=some (.v (Enc.int k) hi))(hlen:Nat.ble len 4294967296=true)
  (hU:∀w,(underlying U).run F.P w= .ok (.array len E) w) (hE:∀w,(sizeOf E).run F.P w= .ok e.n w):JO F ⟨d,.slice U x none (some y) none,ty,p,af,gd⟩ σ (.v (Enc.sl e) ys) []:=by
 intro ρ S a w K;have hlen:=aAd hlen;obtain⟨I,s1,L,rfl⟩:=gG hs;have h:=K.slot x (by simp[Op.operands]) _ hx;have A:=(fB K (x:=y) (by simp[Op.operands]) hy).1;simp only[Slot.ok] at h;obtain⟨b,z,M,B,C,D,G,N,H⟩:=h;have u:((zs.take hi.toNat).drop (0:Int).toNat).length=hi.toNat:=by rw[aA1,aAp];simp only[Int.toNat_zero];omega
 refine OpWp.value (w':=w) (v:= .slice (some ⟨b,z,none⟩) hi.toNat len) ?_ (Res.same (by
  simp only[Slot.ok]
  exact rJ.2 ⟨_,_,by rw[u],⟨by rw[u];omega,by rw[u];omega⟩,.inr ⟨b,z,_,rfl,C,D,G.take (hi.toNat*e.n),by simpa using rR _ H⟩⟩))
 simp[execOp,B,A,We s1 (show hi<=(len:Int) by omega) hU hE]
def ArgsK(σ:AS)(xs:List Operand)(ss:List Slot):Prop:=
 ∀(F:Frm) (ρ:Nat->LV) (a:Act) (w:World),Core F σ.d ρ w->(∀t s,lk σ.g t=some s->s.ok ρ (Un F.S0 ρ σ.d) w (a.tmps.getD t undef))->aV ρ (fun _=>False) w ss (xs.map a.eval)
theorem ArgsK.nil:ArgsK σ [] []:=fun _ _ _ _ _ _=>by simp[aV]
theorem ArgsK.cons{s:Slot}{xs:List Operand}{l:List Slot}(h:Arg σ true x s)(k:ArgsK σ xs l):ArgsK σ (x::xs) (s::l):=by
 intro F ρ a w hco hs;have u:=h _ _ _ _ (bT hco hs #[x]);simp only[aBb] at u;simp only[aV,aAx];exact⟨_,_,rfl,u,k F ρ a w hco hs⟩
theorem ArgsK.fn1{α:Type}{g i j:Nat}{T T2:TypeId}{e:Enc α}{v:α}{bl l:List Slot}{pb pb2:Option Nat}{xs:List Operand}(h:cK σ.g x=some (.fnc g [.ptr i 0]))(he:aW σ.d i=some (.box T [.ptr j 0] pb))(he2:aW σ.d j=some (.box T2 bl pb2))(hs:Spl bl e v)(k:ArgsK σ xs l):
  ArgsK σ (x::xs) (.fnc g [.pst (Enc.ptN e) (some v)]::l):=by
 intro F ρ a w hco hst;have A:=(bT hco hst #[x]).slot x (by simp) _ h;simp only[aV,aAx];refine⟨_,_,rfl,?_,k F ρ a w hco hst⟩;simp only[Slot.ok] at A ⊢;obtain⟨vs,N,C⟩:=A;refine⟨vs,N,?_⟩;simp only[aV] at C ⊢;obtain⟨u,O,rfl,D,P⟩:=C;refine⟨u,O,rfl,?_,P⟩;have L:=(hco.own i _ he)
 have M:=(hco.own j _ he2)
 simp only[Slot.ok] at D;obtain⟨⟨b,E⟩,Q⟩:=D;obtain⟨⟨G,cs,H,I,K⟩,_⟩:=L;obtain rfl:G=b:=by rw[E] at H;simpa using H.symm
 simp only[aZ] at K;obtain⟨c,ds,rfl,z,rfl⟩:=K;obtain⟨q,rfl,R⟩:∃q,c=[q]/\(Slot.ptr j 0).ok ρ (Un F.S0 ρ σ.d) w q:=by
  simp only[Slot.okc] at z;exact⟨_,z.2,by exact⟨z.1,rfl⟩⟩
 have B:=Wd R M hs;simp only[Slot.ok] at B;obtain⟨S,U,V,X,k2,k3,k4,k5⟩:=B;refine⟨G,0,_,by rw[Q,E];rfl,(MemAt.of_heap I).lt,fun h=>h,MemAt.of_heap I,?_⟩;exact⟨S,U,V,by simp[X],k2,k3,k4,k5⟩
theorem FG{f:FuncId}{xs:List Operand}{ts:Array TypeId}{ss:List Slot}{res:Slot}(hc:Con F.P f ss res [])(hcall:∀args w,(callFunc f args).run F.P w= .ok (.enter f args) w)
  (ha:ArgsK σ xs ss) (hf:FlatS res) (hd:gA d F.N=true):JM F ⟨d,.call ⟨.value (.func f),xs.toArray,ts⟩,ty,p,af,gd⟩ σ (σ.put d res []):=by
 rintro a w ⟨⟨ρ,z,A⟩,B,C⟩;refine OpWp.enter (sX hcall) ?_;refine(hc (fun _=>False) w _ ρ (fun _ h=>h.elim) (ha F ρ a w z A)).mono ?_;rintro e I ⟨v,rfl,ρ',D,E,G,K⟩;exact⟨v,rfl,St.put z A B C rfl hd ⟨ρ',D,E,hf _ _ _ _ _ G,⟨fun i u h=>by simp[aW] at h,fun i u b h=>by simp[aW] at h,fun i j u H b h=>by simp[aW] at h⟩⟩⟩
end
end Go.Sw
namespace Go.Sw
open Go Go.RowKit
def FH{α:Type}(l:List α):Option Unit:=if l.isEmpty then none else some ()
theorem Lk{α:Type}{l:List α}{u:Unit}(h:FH l=some u):l≠ []:=by
 intro e;subst e;cases h
theorem NL{α:Type}{e:Enc α}{v:Bool×List α}:∀S w cs,(Enc.slN e).ok v S w cs->(Enc.sl e).ok v.2 S w cs:=fun _ _ _ h=>h.1
theorem FI{α:Type}{e:Enc α}{xs:List α}(h:xs≠ []):∀S w cs,(Enc.sl e).ok xs S w cs->(Enc.slN e).ok (false,xs) S w cs:=by
 rintro S w cs ⟨a,B,A,C,u⟩;refine⟨⟨a,B,A,C,u⟩,fun D l c z=>?_⟩;rcases u with u |⟨b,E,F,rfl,_⟩
 ·exact absurd u h
 ·rw[A] at z;simp at z;rw[<-z.1];rfl
theorem CvS.unN{α:Type}{e:Enc α}{v:Bool×List α}{σ:AS}{r:Nat->Nat}{ls:List Nat}:CvS σ r ls (.v (Enc.slN e) v) (.v (Enc.sl e) v.2):= .enc NL (fun _=>rfl)
section
variable {F:Frm}{σ:AS}{d:Option Tmp}{ty:TypeId}{p:String}{af:Array Edge}{gd:Option (Nat×Bool)}{x y z:Operand}{α:Type}{e:Enc α}
theorem NM{o:Oper}{xs:List α}{new:List (Nat×Ent)}(hne:xs≠ [])(h:JO F o σ (.v (Enc.sl e) xs) new):JO F o σ (.v (Enc.slN e) (false,xs)) new:=by
 intro ρ S a w K;refine(h ρ S a w K).mono ?_;rintro u H ⟨ρ',D,E,z,G⟩;refine⟨ρ',D,E,?_,G⟩;simp only[Slot.ok] at z ⊢;obtain⟨A,B,C⟩:=z;exact⟨A,FI hne _ _ _ B,C⟩
theorem yF(e:Enc α):JO F ⟨d,.assign (.const (.slice none 0 0)),ty,p,af,gd⟩ σ (.v (Enc.slN e) (true,[])) []:=by
 intro ρ S a w K;refine OpWp.value (w':=w) (v:= .slice none 0 0) (by simp[execOp,Act.eval]) (Res.same ?_);simp only[Slot.ok];exact⟨[.slice none 0 0],⟨⟨none,0,rfl,by simp,.inl rfl⟩,fun a l c h=>by simp at h;rw[<-h.1];rfl⟩,rfl⟩
theorem Ov{v:Bool×List α}{T T' E:TypeId}(hx:cK σ.g x=some (.v (Enc.slN e) v))(hT:∀w,(underlying T).run F.P w= .ok (.slice E) w):JO F ⟨d,.binOp .neq T x (.const (.slice none 0 0)) T',ty,p,af,gd⟩ σ (.v Enc.bool (!v.1)) []:=by
 intro ρ S a w K;have h:=K.slot x (by simp[Op.operands]) _ hx;simp only[Slot.ok] at h;obtain⟨b,xs⟩:=v;obtain⟨_,u,l,c,A,rfl⟩:=Qm h;have z:=run_equalIn_slice_nil (P:=F.P) w 9999 T E u l c (qA hT);refine OpWp.value (w':=w) (v:= .bool (!u.isNone)) ?_ (Res.same (mS _ ρ S w));exact Vx (r:=u.isNone) (.inr ⟨rfl,rfl⟩) A rfl (by intros;simp) (by intros;simp) (by intros;simp) (by intros;simp) (by simp[eqGuard,Act.eval]) z
theorem xQ{β:Type}{v:α}{e':Enc β}{z':β}{T U:TypeId}{l:List Slot}{pb:Option Nat}{i n off o1:Nat}(hn:n=off+o1)(hx:cK σ.g x=some (.ptr i n))(he:aW σ.d i=some (.box T l pb))(ho:mP l off=some (.v e v))(hp:Prj e v o1 e' z')
  (hA:∀w,(isAgg U).run F.P w= .ok e'.agg w) (hS:∀w,(sizeOf U).run F.P w= .ok e'.n w):JO F ⟨d,.load U x,ty,p,af,gd⟩ σ (.v e' z') []:=by
 subst hn;intro ρ S a w K;obtain⟨b,I,L,E,G,H⟩:=yS K (by simp[Op.operands]) hx he;obtain⟨h,c,z,rfl,rfl,A,_⟩:=tZ ho H;simp only[Slot.okc] at A;obtain⟨u,c',B,rfl,rfl,C⟩:=hp _ _ c A;have D:MemAt w b (h.length+u.length) c':=by
  have:=MemAt.of_heap G;rw[show h++(u++(c'++B)++z)=(h++u)++(c'++(B++z)) by simp] at this;have:=this.sub;simpa using this
 refine OpWp.value (w':=w) (v:=e'.pk c') ?_ (Res.same (by simp only[Slot.ok];exact⟨c',C,rfl⟩));have:=Es (P:=F.P) D C hA hS;simp[execOp,E,Instr.loadAt,Instr.sureAddr,this]
end
end Go.Sw
namespace Go.Sw
open Go Go.RowKit
section
variable {F:Frm}{ops:Array Oper}{o:Oper}{os:List Oper}{σ σ' σ'':AS}{s:Slot}{new:List (Nat×Ent)}
theorem J.k(h:JO F o σ s new)(k:J F ops os (σ.put o.dst s new) σ')(g:o.guard= .none:=by rfl)(hf:σ.free new=true:=by rfl)(hd:gA o.dst F.N=true:=by rfl):J F ops (o::os) σ σ':=J.cons (.none g) h hf hd k
theorem J.mv{d:Option Tmp}{x:Operand}{ty:TypeId}{p:String}{af:Array Edge}(hx:cK σ.g x=some s)(k:J F ops os (σ.put d s []) σ')(hd:gA d F.N=true:=by rfl):J F ops (⟨d,.move x,ty,p,af,none⟩::os) σ σ':=J.cons (.none rfl) (aD hx) rfl hd k
theorem J.t(h:JM F o σ σ')(k:J F ops os σ' σ'')(g:o.guard= .none:=by rfl):J F ops (o::os) σ σ'':=Ye (.none g) h k
end
theorem SubG.c{σ:AS}{r:Nat->Nat}{ls:List Nat}{t:Nat}{s':Slot}{g:List (Nat×Slot)}(h:lk σ.g t=some (s'.map r))(k:SubG σ r ls g):SubG σ r ls ((t,s')::g):= .cons h .same k
theorem CvL.c{σ:AS}{r:Nat->Nat}{ls:List Nat}{s s':Slot}{l l':List Slot}(h:s=s'.map r)(k:CvL σ r ls l l'):CvL σ r ls (s::l) (s'::l'):= .cons (.of_eq h) k
end Go.Sw
namespace Go.Sw
open Go Go.RowKit
section
variable {F:Frm}{σ:AS}{pb:Option Nat}{ty:TypeId}{p:String}{af:Array Edge}{gd:Option (Nat×Bool)}{x y z:Operand}
theorem uR{T U:TypeId}{l l':List Slot}{i off n:Nat}(pn qn:Nat)(hx:cK σ.g x=some (.ptr i off))(he:aW σ.d i=some (.box T l pb))(h1:Nat.beq (EF (l.take pn)) off=true)(h2:Nat.beq (EF ((l.drop pn).take qn)) n=true)(hy:cK σ.g y=some (.agg l'))(hl':Nat.beq (EF l') n=true)(hnt:l'.all Slot.plain=true)
  (hS:∀w,(sizeOf U).run F.P w= .ok n w):JM F ⟨none,.store U x y,ty,p,af,gd⟩ σ ⟨σ.g,(i,.box T (Qj l pn qn l') pb)::σ.d⟩:=by
 replace hl':=aAb hl';refine pC he rfl fun ρ a w A B=>?_;have K:=bT A B (Op.store U x y).operands;obtain⟨b,S,C,L,D,M⟩:=yS K (x:=x) (by simp[Op.operands]) hx he;have z:=Iu B hy;simp only[Slot.ok] at z;obtain⟨N,h,u⟩:=z;obtain⟨E,c,G,rfl,O,Q,R⟩:=Kw h1 h2 M;have H:=kL (P:=F.P) (w:=w) (U:=U) (a:=E) (c:=c) (e:=G) (v:=a.eval y) hS (by rw[h];simp[Value.cells,Jz u,hl']) (by rw[h];simpa[Value.cells] using AX hnt u) D O Q;refine⟨b,w.setRow b (E++((a.eval y).cells.toList++G)).toArray,.inl (by rw[C];rfl),Upd.setRow w b _,?_,fun I=>?_⟩
 ·exact kM L H
 ·refine⟨⟨b,_,C,setRow_heap w b _ _ T _ D,?_⟩,(A.own i _ he).2⟩;refine eZ _ _ ?_ I (fun _ _=>rfl);rw[h];simpa[Value.cells] using R N u
end
def uW:List (Nat×Nat)->Nat->Nat
 | [],i=>i+1000000000
 | (a,b)::l,i=>bif Nat.beq a i then b else uW l i
def PW:List (Nat×Nat)->Bool
 | []=>true
 | (_,b)::l=>Nat.blt b 1000000000 && (l.all fun q=> !Nat.beq q.2 b) && PW l
theorem FJ:∀(l:List (Nat×Nat)) (i:Nat),(∃q∈l,uW l i=q.2)\/uW l i=i+1000000000
 | [],i=> .inr rfl
 | (a,b)::l,i=>by
  unfold uW;cases Nat.beq a i with
  |true=>exact .inl ⟨(a,b),aA6,rfl⟩
  |false=>
   rcases FJ l i with⟨q,u,z⟩| h
   ·exact .inl ⟨q,aAz _ u,z⟩
   ·exact .inr h
theorem FK:∀(l:List (Nat×Nat)),PW l=true->∀q∈l,q.2<1000000000
 | [],_,q,h=>by simp at h
 | (a,b)::l,h,q,u=>by
  simp only[PW,aAr] at h;rcases aAo.1 u with rfl | u
  ·exact aAd h.1.1
  ·exact FK l h.2 q u
theorem cU:∀{l:List (Nat×Nat)},PW l=true->∀i j,uW l i=uW l j->i=j
 | [],_,i,j,h=>by unfold uW at h;omega
 | (a,b)::l,A,i,j,h=>by
  have C:=FK _ A;simp only[PW,aAr] at A;have D:=C (a,b) aA6;have B:∀i,uW l i≠b:=by
   intro i e;rcases FJ l i with⟨q,z,u⟩| u
   ·have:=aAh.1 A.1.2 q z;rw[<-u,e] at this;simp at this
   ·simp only at D;omega
  unfold uW at h;cases z:Nat.beq a i with
  |true=>
   cases u:Nat.beq a j with
   |true=>rw[<-aAb z,<-aAb u]
   |false=>rw[z,u] at h;exact absurd h.symm (B j)
  |false=>
   cases u:Nat.beq a j with
   |true=>rw[z,u] at h;exact absurd h (B i)
   |false=>rw[z,u] at h;exact cU A.2 i j h
end Go.Sw
namespace Go.Sw
open Go Go.RowKit
theorem Ow{β:Type}{κ:IntKind}{f:Enc β}{S:Nat->Prop}{w1:World}(k:Int):∀(m:List (Int×β)) (es:List MapEntry) (i:Nat),Vs (Enc.int κ) f S w1 m es->
  Instr.findNow (.int κ) (.int κ k) es i=some ((kp (m.map (·.1)) k).bind fun j=>(es[j]?).map fun x=>(i+j,x.val))
 | [],[],i,_=>by simp[Instr.findNow,kp]
 | (a,b)::m,x::xs,i,⟨⟨E,B,C⟩,F,D⟩=>by
  have u:x.key= .int κ a:=by rw[C];rw[B.1];rfl
  have z:=Ow k m xs (i+1) D;simp only[Instr.findNow,u,Instr.sameNow,aBb,aAx,kp];by_cases c:a=k
  ·subst c;simp
  ·have A:(k==a)=false:=by simp;exact fun h=>c h.symm
   rw[A,aAj c];simp only[z];cases kp (m.map (·.1)) k with
   |none=>rfl
   |some j=>simp[aDs,aCz 1 j]
 | [],_::_,_,h=>h.elim
 |_::_,[],_,h=>h.elim
theorem Gm{β:Type}{κ:IntKind}{f:Enc β}{S:Nat->Prop}{w1:World}(k:Int):∀(m:List (Int×β)) (es:List MapEntry),Vs (Enc.int κ) f S w1 m es->
  (kp (m.map (·.1)) k=none->eV m k=none)/\∀j,kp (m.map (·.1)) k=some j->∃v x,eV m k=some v/\es[j]? =some x/\f.val v S w1 x.val
 | [],[],_=>⟨fun _=>rfl,fun j h=>by simp[kp] at h⟩
 | (a,b)::m,x::xs,⟨G,D,E⟩=>by
  obtain⟨u,z⟩:=Gm k m xs E;simp only[aAx,kp,eV];by_cases c:a=k
  ·rw[aAn c,aAn c];exact⟨fun h=>by simp at h,fun j h=>by simp at h;subst h;exact⟨b,x,rfl,rfl,D⟩⟩
  ·rw[aAj c,aAj c];refine⟨fun h=>u (by simpa using h),fun j h=>?_⟩;cases hk:kp (m.map (·.1)) k with
   |none=>rw[hk] at h;simp at h
   |some F=>
    rw[hk] at h;simp at h;subst h;obtain⟨v,y,A,B,C⟩:=z F hk;exact⟨v,y,A,by simpa using B,C⟩
 | [],_::_,h=>h.elim
 |_::_,[],h=>h.elim
theorem Dm{β:Type}{κ:IntKind}{P:Program}{T:TypeId}{f:Enc β}{S:Nat->Prop}{w1:World}(hT:∀w,(underlying T).run P w= .ok (.int κ) w)(k:Int)(w:World)(m:List (Int×β))(es:List MapEntry)(h:Vs (Enc.int κ) f S w1 m es):
  (Instr.findKey T (.int κ k) es).run P w= .ok ((kp (m.map (·.1)) k).bind fun j=>(es[j]?).map fun x=>(j,x.val)) w:=by
 have:=Ow k m es 0 h;simp only[aC4] at this;simp only[Instr.findKey,Sem.run_bind,hT,Result.andThen_ok,this];rfl
section
variable {F:Frm}{σ:AS}{d:Option Tmp}{ty:TypeId}{p:String}{af:Array Edge}{gd:Option (Nat×Bool)}{x y z:Operand}{β:Type}{κ:IntKind}{n':Nat}{M KT KT' VT:TypeId}{f:Enc β}{m m':List (Int×β)}{i:Nat}{k:Int}
theorem Ll{u:β}{zv:Value}(hx:cK σ.g x=some (.ref i))(hd:aW σ.d i=some (.mp (Enc.int κ) f m))(hy:cK σ.g y=some (.v (Enc.int κ) k))
  (hM:∀w,(underlying M).run F.P w= .ok (.map KT VT) w) (hT:∀w,(underlying KT).run F.P w= .ok (.int κ) w) (hk:KeyE n' F.P KT (Enc.int κ)) (hn':Nat.ble n' 10000=true)
  (hz:∀w,(zeroValue VT).run F.P w= .ok zv w) (hzv:∀S w,f.val u S w zv):JO F ⟨d,.lookup M x y true,ty,p,af,gd⟩ σ (.tup [.v f ((eV m k).getD u),.v Enc.bool (eV m k).isSome]) []:=by
 intro ρ S a w K;obtain⟨E,N,_⟩:=xO K (x:=x) (by simp[Op.operands]) hx hd;obtain⟨b,C,ck,G,O,H⟩:=N;have h:=K.slot y (by simp[Op.operands]) _ hy;simp only[Slot.ok] at h;obtain⟨I,h,Q⟩:=h;have A:a.eval y= .int κ k:=by rw[Q,h.1];rfl
 have z:=Dm hT k w m C.toList H;have B:=hk 10000 (aAd hn') C.isEmpty w S w k I h;have L:(Enc.int κ).pk I= .int κ k:=by rw[h.1];rfl
 rw[L] at B;have D:=MapKept.run_getObj_map (P:=F.P) O;obtain⟨R,T⟩:=Gm k m C.toList H;have tup:∀{v:Value} {t:β} {c:Bool},f.val t S w v->(Slot.tup [.v f t,.v Enc.bool c]).ok ρ S w (.tuple #[v,.bool c]):=by
  intro v t c A;simp only[Slot.ok];refine⟨[v,.bool c],rfl,?_⟩;simp only[aV,Slot.ok];exact⟨v,[.bool c],rfl,A,.bool c,[],rfl,⟨[.bool c],rfl,rfl⟩,rfl⟩
 cases hm:kp (m.map (·.1)) k with
 |none=>
  rw[hm] at z;have:=R hm;rw[this];refine OpWp.value (w':=w) (v:= .tuple #[zv,.bool false]) ?_ (Res.same (tup (hzv _ _)));simp[execOp,E,G,A,Instr.lookup,hM,D,B,z,hz]
 |some j=>
  rw[hm] at z;obtain⟨v,q,U,V,X⟩:=T j hm;rw[U];rw[cM,V] at z;refine OpWp.value (w':=w) (v:= .tuple #[q.val,.bool true]) ?_ (Res.same (tup X));simp[execOp,E,G,A,Instr.lookup,hM,D,B,z]
theorem Tf{u:β}{zv:Value}(hx:cK σ.g x=some (.ref i))(hd:aW σ.d i=some (.mp (Enc.int κ) f m))(hy:cK σ.g y=some (.v (Enc.int κ) k))
  (hM:∀w,(underlying M).run F.P w= .ok (.map KT VT) w) (hT:∀w,(underlying KT).run F.P w= .ok (.int κ) w) (hk:KeyE n' F.P KT (Enc.int κ)) (hn':Nat.ble n' 10000=true)
  (hz:∀w,(zeroValue VT).run F.P w= .ok zv w) (hzv:∀S w,f.val u S w zv):JO F ⟨d,.lookup M x y false,ty,p,af,gd⟩ σ (.v f ((eV m k).getD u)) []:=by
 intro ρ S a w K;obtain⟨E,N,_⟩:=xO K (x:=x) (by simp[Op.operands]) hx hd;obtain⟨b,B,ck,G,O,H⟩:=N;have h:=K.slot y (by simp[Op.operands]) _ hy;simp only[Slot.ok] at h;obtain⟨I,h,Q⟩:=h;have C:a.eval y= .int κ k:=by rw[Q,h.1];rfl
 have z:=Dm hT k w m B.toList H;have A:=hk 10000 (aAd hn') B.isEmpty w S w k I h;have L:(Enc.int κ).pk I= .int κ k:=by rw[h.1];rfl
 rw[L] at A;have D:=MapKept.run_getObj_map (P:=F.P) O;obtain⟨R,T⟩:=Gm k m B.toList H;cases hm:kp (m.map (·.1)) k with
 |none=>
  rw[hm] at z;have:=R hm;rw[this];refine OpWp.value (w':=w) (v:=zv) ?_ (Res.same (by simp only[Slot.ok];exact hzv _ _));simp[execOp,E,G,C,Instr.lookup,hM,D,A,z,hz]
 |some j=>
  rw[hm] at z;obtain⟨v,q,U,V,X⟩:=T j hm;rw[U];rw[cM,V] at z;refine OpWp.value (w':=w) (v:=q.val) ?_ (Res.same (by simp only[Slot.ok];exact X));simp[execOp,E,G,C,Instr.lookup,hM,D,A,z]
theorem Lm{v:β}(hm:Ga m k v=some m')(hx:cK σ.g x=some (.ref i))(hd:aW σ.d i=some (.mp (Enc.int κ) f m))(hy:cK σ.g y=some (.v (Enc.int κ) k))(hz:cK σ.g z=some (.v f v))
  (hM:∀w,(underlying M).run F.P w= .ok (.map KT VT) w) (hT:∀w,(underlying KT).run F.P w= .ok (.int κ) w) (hk:KeyE n' F.P KT (Enc.int κ)) (hn':Nat.ble n' 10000=true):
  JM F ⟨none,.mapUpdate M x y z,ty,p,af,gd⟩ σ ⟨σ.g,(i,.mp (Enc.int κ) f m')::σ.d⟩:=by
 obtain⟨aa,rfl⟩:=Oh hm;refine pC hd rfl fun ρ a w X hs=>?_;have K:=bT X hs (Op.mapUpdate M x y z).operands;obtain⟨h1,h2,_⟩:=xO K (x:=x) (by simp[Op.operands]) hx hd;obtain⟨b,u,A,C,D,E⟩:=h2;have h:=K.slot y (by simp[Op.operands]) _ hy;have G:=K.slot z (by simp[Op.operands]) _ hz;simp only[Slot.ok] at h G;have Q:=h;obtain⟨N,h,ab⟩:=h;have R:a.eval y= .int κ k:=by rw[ab,h.1];rfl
 have H:=Dm hT k w m u.toList E;have S:kp (m.map (·.1)) k=none:=by
  cases hkp:kp (m.map (·.1)) k with
  |none=>rfl
  |some j=>obtain⟨v,_,O,_⟩:=(Gm k m u.toList E).2 j hkp;rw[aa] at O;cases O
 rw[S] at H;have I:=hk 10000 (aAd hn') false w _ w k N h;have T:(Enc.int κ).pk N= .int κ k:=by rw[h.1];rfl
 rw[T] at I;have U:=MapKept.run_getObj_map (P:=F.P) D;have V:=fun o=>MapKept.run_setObj_map (P:=F.P) o D;have L:=MapKept.heap_set (o':= .map (u.push { key:=a.eval y,val:=a.eval z,born:=A }) (A+1)) D;refine⟨b,{ w with heap:=w.heap.setIfInBounds b (.map (u.push { key:=a.eval y,val:=a.eval z,born:=A }) (A+1)) },.inl (by rw[C];rfl),⟨by simp,L.2,rfl,rfl,rfl⟩,?_,fun B=>?_⟩
 ·simp[execOp,h1,C,R,Instr.mapUpdate,hM,U,I,H,V]
 ·refine⟨b,_,_,C,L.1,?_⟩;rw[aDk];exact Ky (gB Q B) (gB G B) (yN B E)
theorem Ox{α:Type}{e:Enc α}{S:Nat->Prop}{w:World}:∀{m:List (α×β)} {es:List MapEntry} (q:Nat),Vs e f S w m es->Vs e f S w (m.eraseIdx q) (es.eraseIdx q)
 | [],[],_,_=>trivial
 | (_,_)::_,_::_,0,⟨_,_,h⟩=>h
 | (_,_)::_,_::_,q+1,⟨u,z,A⟩=>⟨u,z,Ox q A⟩
 | [],_::_,_,h=>h.elim
 |_::_,[],_,h=>h.elim
theorem Ln(hx:cK σ.g x=some (.ref i))(hd:aW σ.d i=some (.mp (Enc.int κ) f m))(hy:cK σ.g y=some (.v (Enc.int κ) k))
  (hM:∀w,(underlying M).run F.P w= .ok (.map KT VT) w) (hT:∀w,(underlying KT).run F.P w= .ok (.int κ) w) (hk:KeyE n' F.P KT (Enc.int κ)) (hn':Nat.ble n' 10000=true):
  JM F ⟨none,.call ⟨.builtin .delete,#[x,y],#[M,KT']⟩,ty,p,af,gd⟩ σ ⟨σ.g,(i,.mp (Enc.int κ) f (Fa m k))::σ.d⟩:=by
 rintro a w ⟨⟨ρ,R,S⟩,ad,ae⟩;have K:=bT R S (Op.call ⟨.builtin .delete,#[x,y],#[M,KT']⟩).operands;obtain⟨O,h2,_⟩:=xO K (x:=x) (by simp[Op.operands,Call.operands]) hx hd;obtain⟨b,A,B,C,G,D⟩:=h2;have h:=K.slot y (by simp[Op.operands,Call.operands]) _ hy;simp only[Slot.ok] at h;obtain⟨Q,h,aa⟩:=h;have H:a.eval y= .int κ k:=by rw[aa,h.1];rfl
 have u:=Dm hT k w m A.toList D;have E:=hk 10000 (aAd hn') A.isEmpty w _ w k Q h;have T:(Enc.int κ).pk Q= .int κ k:=by rw[h.1];rfl
 rw[T] at E;have I:=MapKept.run_getObj_map (P:=F.P) G;have L:=fun o=>MapKept.run_setObj_map (P:=F.P) o G;have U:blk (ρ i).v=some b:=by rw[C];rfl
 obtain⟨z,ab,ac⟩:∃z:Array MapEntry,(execOp a.eval ⟨none,.call ⟨.builtin .delete,#[x,y],#[M,KT']⟩,ty,p,af,gd⟩).run F.P w= .ok (.value (.tuple #[])) { w with heap:=w.heap.setIfInBounds b (.map z B) }/\Vs (Enc.int κ) f (Un F.S0 ρ σ.d) w (Fa m k) z.toList:=by
  unfold Fa;cases hkp:kp (m.map (·.1)) k with
  |none=>
   rw[hkp] at u;simp only[Option.bind_none] at u;exact⟨A,by simp[execOp,resolve,invoke,builtin,Builtin.delete_,O,C,H,hM,I,E,u,L],D⟩
  |some q=>
   rw[hkp] at u;obtain⟨_,xq,_,e2,_⟩:=(Gm k m A.toList D).2 q hkp;rw[cM,e2] at u;refine⟨A.eraseIdxIfInBounds q,by simp[execOp,resolve,invoke,builtin,Builtin.delete_,O,C,H,hM,I,E,u,L],?_⟩;simp only[Array.toList_eraseIdxIfInBounds];exact Ox q D
 have N:=MapKept.heap_set (o':= .map z B) G;refine OpWp.value ab ?_
 obtain⟨k1,k2⟩:=R.upd (en':= .mp (Enc.int κ) f (Fa m k)) hd (.inl U) (b:=b) (w':={ w with heap:=w.heap.setIfInBounds b (.map z B) }) ⟨by simp,N.2,rfl,rfl,rfl⟩ (fun V=>by
  exact⟨b,z,B,C,N.1,yN V ac⟩)
 exact⟨⟨ρ,k1,fun t s X=>Slot.ok_mono s _ (S t s X) k2 (fun _ _=>rfl)⟩,ad,ae⟩
end
end Go.Sw
namespace Go.Sw
open Go Go.RowKit
def Dn(gs:List FuncId):Enc Nat where
 n:=1
 agg:=false
 ok i _ _ cs:=(∃g,gs[i]? =some g/\cs=[.func (.func g) #[] #[]])\/(gs[i]? =none/\cs=[.nilFunc])
 len h:=by rcases h with⟨_,_,rfl⟩|⟨_,rfl⟩<;>rfl
 one _:=rfl
 cell h c hc:=by rcases h with⟨_,_,rfl⟩|⟨_,rfl⟩<;>(simp at hc;subst hc;rfl)
 mono h _:=h
theorem KA{gs:List FuncId}{i:Nat}{g:FuncId}{S:Nat->Prop}{w:World}{u:Value}(hg:gs[i]? =some g)(h:(Dn gs).val i S w u):u= .func (.func g) #[] #[]:=by
 obtain⟨A,h,rfl⟩:=h;rcases h with⟨B,z,rfl⟩|⟨z,rfl⟩
 ·rw[hg] at z;cases z;rfl
 ·rw[hg] at z;cases z
section
variable {F:Frm}{σ:AS}{d:Option Tmp}{ty:TypeId}{p:String}{af:Array Edge}{gd:Option (Nat×Bool)}{x y z:Operand}
theorem Arg.toN{α:Type}{e:Enc α}{xs:List α}{lend:Bool}(hne:xs≠ [])(h:cK σ.g x=some (.v (Enc.sl e) xs)):Arg σ lend x (.v (Enc.slN e) (false,xs)):=by
 have z:Arg σ lend x (.v (Enc.sl e) xs):= .dir h;intro ρ S a w K;have u:=z ρ S a w K;simp only[Slot.ok] at u ⊢;obtain⟨A,B,C⟩:=u;exact⟨A,FI hne _ _ _ B,C⟩
theorem qC{o:Oper}{g:FuncId}{new:List (Nat×Ent)}(gs:List FuncId)(i:Nat)(hg:gs[i]? =some g)(h:JO F o σ (.fnc g []) new):JO F o σ (.v (Dn gs) i) new:=by
 intro ρ S a w K;refine(h ρ S a w K).mono ?_;rintro u E ⟨ρ',B,C,A,D⟩;refine⟨ρ',B,C,?_,D⟩;simp only[Slot.ok] at A ⊢;obtain⟨vs,rfl,z⟩:=A;simp only[aV] at z;subst z;exact⟨[.func (.func g) #[] #[]],.inl ⟨g,hg,rfl⟩,rfl⟩
theorem Ax(gs:List FuncId)(i:Nat)(hg:gs[i]? =none):JO F ⟨d,.assign (.const .nilFunc),ty,p,af,gd⟩ σ (.v (Dn gs) i) []:=by
 intro ρ S a w K;refine OpWp.value (w':=w) (v:= .nilFunc) (by simp[execOp,Act.eval]) (Res.same ?_);simp only[Slot.ok];exact⟨[.nilFunc],.inr ⟨hg,rfl⟩,rfl⟩
theorem BL{gs:List FuncId}{i:Nat}{xs:List Operand}{ts:Array TypeId}{ss:List Slot}{res:Slot}{din dout:(Nat->Nat)->List (Nat×Ent)}{D:List (Nat×Ent)}{K H:List Nat}(r:Nat->Nat)(hr:∀i j,r i=r j->i=j)(hx:cK σ.g x=some (.v (Dn gs) i))
  (hc:∃f,gs[i]? =some f/\(∀args w,(callFunc f args).run F.P w= .ok (.enter f args) w)/\∀A,ConM F.P f ss (din A) res (dout A)) (ha:ArgsM σ r xs ss) (hin:∀A,DinR σ r A (din A)) (hout:∀A,DoutR σ r A (dout A) D K)
  (hH:∀A,(din A).map (fun x=>r x.1)=H) (hst:Ac σ.g (iH σ.d H) H K D=true) (hnew:Nl σ H D=true) (hcl:∀A,kJ res (dout A)=true) (hKH:K.all (fun k=>gV k H)=true) (hdst:gA d F.N=true):
  JM F ⟨d,.call ⟨.value x,xs.toArray,ts⟩,ty,p,af,gd⟩ σ ⟨hX d (res.map r) σ.g,D++iH σ.d H⟩:=by
 obtain⟨f,ab,ac,hc⟩:=hc;rintro a w ⟨⟨ρ,z,S⟩,hz,ad⟩;let A:Nat->Nat:=fun i=>adr (ρ (r i)).v
 have O:∀i b,(ρ (r i)).v= .pointer (some ⟨b,0,none⟩)->A i=b:=fun i b h=>by show adr (ρ (r i)).v=b;rw[h];rfl
 have B:=(hin A).spec z.own O;have T:∀k,(Un F.S0 ρ σ.d k/\¬lQ (fun i=>ρ (r i)) (din A) k)->k<w.heap.size:=by
  rintro k ⟨h |⟨i,u,C,M⟩,_⟩
  ·exact aAy (z.low k h) z.size
  ·exact(z.fresh i u k C M).2
 have Q:Un (fun k=>Un F.S0 ρ σ.d k/\¬lQ (fun i=>ρ (r i)) (din A) k) (fun i=>ρ (r i)) (din A)=Un F.S0 ρ σ.d:=by
  funext k;refine propext ⟨fun h=>?_,fun h=>?_⟩
  ·rcases h with h |⟨i,u,C,M⟩
   ·exact h.1
   ·obtain⟨⟨L,E⟩,_⟩:=B i u C;exact .inr ⟨r i,L,E,M⟩
  ·by_cases G:lQ (fun i=>ρ (r i)) (din A) k
   ·exact .inr G
   ·exact .inl ⟨h,G⟩
 have U:Ins (fun k=>Un F.S0 ρ σ.d k/\¬lQ (fun i=>ρ (r i)) (din A) k) (fun i=>ρ (r i)) w (din A):=by
  refine⟨fun i u h=>?_,fun i u b h I=>?_,fun i u b h I X=>X.2 ⟨i,u,h,I⟩,fun i j u aa b hi hj bi bj=>?_⟩
  ·rw[Q];exact(B i u h).2
  ·obtain⟨⟨L,E⟩,_⟩:=B i u h;exact(z.fresh _ _ b E I).2
  ·obtain⟨⟨L,E⟩,_⟩:=B i u hi;obtain⟨⟨ae,h4⟩,_⟩:=B j aa hj;exact hr _ _ (z.inj _ _ _ _ b E h4 bi bj)
 have K:=bT z S (Op.call ⟨.value x,xs.toArray,ts⟩).operands;have V:=ha.spec (ys:=(Op.call ⟨.value x,xs.toArray,ts⟩).operands) (fun x hx=>by simp[Op.operands,Call.operands,hx]) K;have R:=K.slot x (by simp[Op.operands,Call.operands]) _ hx;simp only[Slot.ok] at R;have C:a.eval x= .func (.func f) #[] ([]:List Value).toArray:=KA ab R;refine OpWp.enter (Oi C ac) ?_;rw[aBa];refine(hc A _ w _ _ T U (by rw[Q];exact V)).mono ?_;rintro e w' ⟨v,ρ',rfl,G⟩;exact⟨v,rfl,St.callM hr z S hz ad O (hin A) (hout A) (hH A) hst hnew (hcl A) hKH hdst G⟩
end
end Go.Sw
namespace Go.Sw
open Go Go.RowKit
section
variable {F:Frm}{σ:AS}{pb:Option Nat}{d:Option Tmp}{ty:TypeId}{p:String}{af:Array Edge}{gd:Option (Nat×Bool)}{x y z:Operand}
theorem tA{α:Type}{T U:TypeId}{l:List Slot}{i off:Nat}{s0:Slot}(j:Nat)(E:TypeId)(e:Enc α)(hx:cK σ.g x=some (.ptr i off))(he:aW σ.d i=some (.box T l pb))(ho:mP l off=some s0)(hsz0:s0.sz=1)
  (hS:∀w,(sizeOf U).run F.P w= .ok 1 w) (hf:σ.free [(j,.arr E e [])]=true):JM F ⟨none,.store U x (.const (.slice none 0 0)),ty,p,af,gd⟩ σ ⟨σ.g,(i,.box T (nD l off (.ref j)) pb)::(j,.arr E e [])::σ.d⟩:=by
 rintro a w ⟨⟨ρ,hc,hs⟩,hz,ab⟩;obtain⟨ρ',G,h2,h3,h4⟩:=Kr (w:=w) (S:=Un F.S0 ρ σ.d) E e j ρ;obtain⟨C,k2,k3⟩:=hc.put rfl hf G h2 h4;have D:∀t s,lk σ.g t=some s->s.ok ρ' (Un F.S0 ρ' ([(j,.arr E e [])]++σ.d)) w (a.tmps.getD t undef):=fun t s A=>
  Slot.ok_mono s _ (hs t s A) k3 (fun q R=>congrArg LV.v (G q (by
   cases hy:aW [(j,Ent.arr E e [])] q with
   |none=>rfl
   |some e=>exact absurd R ((kF hf hy).1 t s A))))
 have M:i≠j:=fun h=>by
  subst h;have:=(kF hf (i:=i) (en:= .arr E e []) (by simp[aW])).2.1;rw[he] at this;cases this
 have B:aW ([(j,.arr E e [])]++σ.d) i=some (.box T l pb):=by
  rw[fV];simp[aW,show Nat.beq j i=false from by cases hb:Nat.beq j i with
   |true=>exact absurd (aAb hb).symm M
   |false=>rfl,he]
 have K:=bT (σ:=⟨σ.g,[(j,.arr E e [])]++σ.d⟩) C D (Op.store U x (.const (.slice none 0 0))).operands;obtain⟨b,cs,H,g2,I,g4⟩:=yS K (x:=x) (by simp[Op.operands]) hx B;obtain⟨L,c,aa,rfl,rfl,g5,g6⟩:=tZ ho g4;have N:a.eval (.const (.slice none 0 0))= .slice none 0 0:=by simp[Act.eval]
 have z:=pY (s:= .ref j) rfl h3;rw[<-N] at z;have O:∀u∈(a.eval (.const (.slice none 0 0))).cells.toList,u.oneCell'=true:=fun u V=>Fy z u V (fun e=>by cases e);have Q:=kL (P:=F.P) (w:=w) (U:=U) hS (by have:=mT z;simp only[aA3] at this;exact this) O I rfl (by rw[mT g5];exact hsz0);obtain⟨m1,m2⟩:=C.upd (en':= .box T (nD l L.length (.ref j)) pb) B (b:=b) (.inl (by rw[H];rfl)) (Upd.setRow w b (L++((a.eval (.const (.slice none 0 0))).cells.toList++aa)).toArray) fun X=>by
  refine⟨⟨b,_,H,setRow_heap w b _ _ T _ I,?_⟩,(C.own i _ B).2⟩;refine eZ _ _ (g6 (.ref j) _ ?_) X (fun _ _=>rfl);refine(uM _ _ z ?_ (fun _ _=>rfl));exact⟨aAi _,fun k _ hn=>⟨rfl,fun h=>hn ((k2 k).1 h)⟩⟩
 exact OpWp.skip (kM g2 Q) ⟨⟨ρ',m1,fun t s A=>Slot.ok_mono s _ (D t s A) m2 (fun _ _=>rfl)⟩,hz,ab⟩
def RY(q:List (Nat×Nat×Slot))(d:List (Nat×Ent)):Prop:=∀x∈q,∃T l pb,aW d x.1=some (.box T l pb)/\mP l x.2.1=some x.2.2
theorem FM{U:TypeId}{i off:Nat}{s:Slot}{g:List (Nat×Slot)}{dd:List (Nat×Ent)}(q:List (Nat×Nat×Slot))(k:Nat)(hd:RY q dd)(hk:q[k]? =some (i,off,s))
  (hld:∀T l pb,aW dd i=some (.box T l pb)->mP l off=some s->JO F ⟨d,.load U x,ty,p,af,gd⟩ ⟨g,dd⟩ s []):JO F ⟨d,.load U x,ty,p,af,gd⟩ ⟨g,dd⟩ s []:=by
 obtain⟨T,l,pb,h,u⟩:=hd _ (aB7 hk);exact hld T l pb h u
def PG(x:Nat×Nat×Slot):Ent->Prop
 | .box _ l _=>mP l x.2.1=some x.2.2
 |_=>False
def RI(x:Nat×Nat×Slot)(nw:List (Nat×Ent))(dl:List Nat):Prop:=match aW nw x.1 with
 |some h=>PG x h
 |none=>gV x.1 dl=false
def RZ(x:Nat×Nat×Slot):List Itm4->Prop
 | []=>True
 |it::r=>RI x it.nw it.dl/\RZ x r
def SR(d:List (Nat×Ent))(its:List Itm4):List (Nat×Nat×Slot)->Prop
 | []=>True
 |x::r=>((match aW d x.1 with | some h=>PG x h | none=>False)/\RZ x its)/\SR d its r
theorem KB{x:Nat×Nat×Slot}{en:Ent}(h:PG x en):∃T l pb,en= .box T l pb/\mP l x.2.1=some x.2.2:=by
 cases en with
 |box T l pb=>exact⟨T,l,pb,rfl,h⟩
 |_=>exact h.elim
theorem FN{x:Nat×Nat×Slot}:∀{its:List Itm4} {i:Nat},RZ x its->i<its.length->RI x (its.getD i ⟨.top,[],[],[],[]⟩).nw (its.getD i ⟨.top,[],[],[],[]⟩).dl
 | [],_,_,h=>by simp at h
 |_::_,0,h,_=>h.1
 |_::r,i+1,h,u=>by have:=FN (its:=r) (i:=i) h.2 (by simpa using u);simpa using this
theorem Ze{x:Nat×Nat×Slot}{nw:Nat->List (Nat×Ent)}{dl:Nat->List Nat}{d:List (Nat×Ent)}{L:Nat->Bool}(h0:∃en,aW d x.1=some en/\PG x en):∀{n:Nat},(∀i,i<n->RI x (nw i) (dl i))->∃en,aW (Aw nw dl d n L) x.1=some en/\PG x en
 | 0,_=>h0
 |n+1,h=>by
  have z:=Ze (L:=L) h0 (n:=n) fun i D=>h i (by omega);simp only[Aw];cases L n with
  |false=>exact z
  |true=>
   have u:=h n (by omega);simp only[aAe,fV];unfold RI at u;cases hx:aW (nw n) x.1 with
   |some en=>rw[hx] at u;exact⟨en,rfl,u⟩
   |none=>
    rw[hx] at u;have:x.1∉dl n:=fun A=>by rw[iK.2 A] at u;cases u
    obtain⟨en,B,C⟩:=z;exact⟨en,by rw[pD,aAj this];simpa using B,C⟩
theorem Zf{d:List (Nat×Ent)}{its:List Itm4}{n:Nat}(hn:n=its.length):∀{q:List (Nat×Nat×Slot)},SR d its q->∀L,RY q (Aw (fun i=>(its.getD i ⟨.top,[],[],[],[]⟩).nw) (fun i=>(its.getD i ⟨.top,[],[],[],[]⟩).dl) d n L)
 | [],_,_=>fun _ h=>by cases h
 |x::r,h,L=>fun y u=>by
  rcases aAo.1 u with rfl | u
  ·have z:∃en,aW d y.1=some en/\PG y en:=by
    have:=h.1.1;cases hx:aW d y.1 with
    |some en=>rw[hx] at this;exact⟨en,rfl,this⟩
    |none=>rw[hx] at this;exact this.elim
   subst hn;obtain⟨en,B,C⟩:=Ze (L:=L) z fun i A=>FN h.1.2 A;obtain⟨T,l,D,rfl,E⟩:=KB C;exact⟨T,l,D,B,E⟩
  ·exact Zf hn h.2 L y u
theorem Qy{α:Type}{xs ys:List α}{lo hi:Int}(hs:Sw.sub xs lo hi=some ys):ys.length=hi.toNat - lo.toNat:=by
 obtain⟨h,u,z,rfl⟩:=gG hs;simp only[aA1,aAp];omega
theorem KC{α:Type}{xs ys:List α}{lo hi m:Int}{z:α}(hs:Sw.sub xs lo hi=some ys)(hz:Sw.idx ys m=some z):xs[lo.toNat+m.toNat]? =some z:=by
 have u:=Qy hs;obtain⟨B,C,D,rfl⟩:=gG hs;obtain⟨E,A,h⟩:=cX hz;rw[List.getElem?_drop,List.getElem?_take] at h;rw[u] at A
 rwa [aAn (by omega)] at h
theorem BM{α:Type}{e:Enc α}{xs ys:List α}{lo hi:Int}{T U E:TypeId}{i:Nat}(hs:Sw.sub xs lo hi=some ys)(hx:cK σ.g x=some (.sub i (lo.toNat*e.n) (hi.toNat - lo.toNat)))(he:aW σ.d i=some (.arr T e xs))(hU:∀w,(underlying U).run F.P w= .ok (.slice E) w):
  JO F ⟨d,.call ⟨.builtin .len,#[x],#[U]⟩,ty,p,af,gd⟩ σ (.v (Enc.int .i64) (ys.length:Int)) []:=by
 intro ρ S a w K;have A:=Qy hs;obtain⟨L,M,C,_⟩:=gG hs;have u:=K.slot x (by simp[Op.operands,Call.operands]) _ hx;simp only[Slot.ok] at u;obtain⟨⟨D,l0,N,G⟩,c,o,O,Q,H⟩:=u;have B:arrOk T e xs S w (ρ i).v:=(K.ent x (by simp[Op.operands,Call.operands]) _ hx i (by simp[Slot.lab]) _ he).1;have h:∃z,a.eval x= .slice z (hi.toNat - lo.toNat) c:=by
  rw[H,G];cases D with
  |none=>exact⟨_,rfl⟩
  |some q=>exact⟨_,rfl⟩
 obtain⟨z,h⟩:=h;have I:(ys.length:Int)<9223372036854775808:=by
  rcases B with⟨rfl,_⟩|⟨b,R,V,X,aa,_,_,_,_,_,ab⟩
  ·simp at C;omega
  ·omega
 refine OpWp.value (w':=w) (v:= .int .i64 ys.length) ?_ (Res.same (sE (Cd (by omega)) ρ S w));rw[A];simp[execOp,resolve,invoke,builtin,h,Fw hU]
theorem BN{α:Type}{e:Enc α}{xs ys:List α}{lo hi:Int}{T U E:TypeId}{k:IntKind}{m:Int}{z:α}{i:Nat}(hs:Sw.sub xs lo hi=some ys)(hz:Sw.idx ys m=some z)(hx:cK σ.g x=some (.sub i (lo.toNat*e.n) (hi.toNat - lo.toNat)))(he:aW σ.d i=some (.arr T e xs))(hy:cK σ.g y=some (.v (Enc.int k) m))
  (hU:∀w,(underlying U).run F.P w= .ok (.slice E) w) (hE:∀w,(sizeOf E).run F.P w= .ok e.n w):JO F ⟨d,.indexAddr U x y,ty,p,af,gd⟩ σ (.el i (lo.toNat+m.toNat) e.n 0) []:=by
 intro ρ S a w K;have N:=Qy hs;obtain⟨O,Q,I,_⟩:=gG hs;obtain⟨L,R,V⟩:=cX hz;have B:=K.slot x (by simp[Op.operands]) _ hx;simp only[Slot.ok] at B;obtain⟨⟨X,l0,c0,g0⟩,c,o,g1,h,M⟩:=B;have C:arrOk T e xs S w (ρ i).v:=(K.ent x (by simp[Op.operands]) _ hx i (by simp[Slot.lab]) _ he).1;have D:=(fB K (x:=y) (by simp[Op.operands]) hy).1;rcases C with⟨rfl,_⟩|⟨b,cap,u,cs,aa,A,_⟩
 ·simp at I;omega
 have G:o=lo.toNat*e.n:=by
  rcases h with h | h
  ·exact h
  ·omega
 subst G;have H:a.eval x= .slice (some ⟨b,u.length+lo.toNat*e.n,none⟩) (hi.toNat - lo.toNat) c:=by rw[M,A];rfl
 refine OpWp.value (w':=w) (v:= .pointer (some ⟨b,u.length+lo.toNat*e.n+m.toNat*e.n,none⟩)) ?_ (Res.same (by simp only[Slot.ok];exact⟨⟨b,_,_,_,A⟩,by rw[A];simp[Kl,aBe,aDs]⟩));have:=Cc (P:=F.P) (w:=w) (b:=b) (off:=u.length+lo.toNat*e.n) (len:=hi.toNat - lo.toNat) (cap:=c) (k:=k) hU hE L (by omega:m<((hi.toNat - lo.toNat:Nat):Int));simp only[execOp,H,D];simp[this]
end
section
variable {F:Frm}{ops:Array Oper}{OK:List (Nat×Ent)->Prop}{os:List Oper}{σ σ2 σ':AS}{its:List Itm4}{d:Option Tmp}{ty:TypeId}{p:String}{af:Array Edge}{gd:Option (Nat×Bool)}{o:Oper}
theorem JP4.callMV{gs:List FuncId}{fi:Nat}{x:Operand}{xs:List Operand}{ts:Array TypeId}{ss:List Slot}{res:Slot}{din dout:(Nat->Nat)->List (Nat×Ent)}{D:List (Nat×Ent)}{K H:List Nat}(g:GK ops σ.g ⟨d,.call ⟨.value x,xs.toArray,ts⟩,ty,p,af,gd⟩ true)(r:Nat->Nat)(hr:∀i j,r i=r j->i=j)
  (hx:cK σ.g x=some (.v (Dn gs) fi)) (hc:∃f,gs[fi]? =some f/\(∀args w,(callFunc f args).run F.P w= .ok (.enter f args) w)/\∀A,ConM F.P f ss (din A) res (dout A)) (ha:ArgsM σ r xs ss) (hin:∀A,DinR σ r A (din A)) (hout:∀A,DoutR σ r A (dout A) D K)
  (hH:∀A,(din A).map (fun x=>r x.1)=H) (hDK:D.all (fun x=> !gV x.1 H || gV x.1 K)=true) (_:Nl σ H D=true) (hcl:∀A,kJ res (dout A)=true) (hKH:K.all (fun k=>gV k H)=true) (hdst:gA d F.N=true)
  (k:JP4 F ops OK os ⟨hX d (res.map r) σ.g,D++iH σ.d H⟩ its σ'):
  JP4 F ops OK (⟨d,.call ⟨.value x,xs.toArray,ts⟩,ty,p,af,gd⟩::os) σ (⟨res.map r,D,D.filter (fun x=> !gV x.1 H),Jm σ.g ⟨d,.call ⟨.value x,xs.toArray,ts⟩,ty,p,af,gd⟩++H,H⟩::its) σ':=by
 refine .mvx (nw:=D) (fr:=D.filter (fun x=> !gV x.1 H)) (dl:=H) (ex:=H) g hdst (fun σ2 G I M=>?_) k;have L:∀x∈D,gV x.1 H=true->gV x.1 K=true:=fun x hx B=>by
  have:=aAh.1 hDK x hx;simpa[B] using this
 refine BL r hr ((G.ev (by simp[Op.operands,Call.operands])).trans hx) hc (ha.loc G fun x hx=>by simp[Op.operands,Call.operands,hx]) (fun A=>(hin A).loc fun l u=>I l (by rw[<-hH A];exact u)) (fun A=>(hout A).loc fun l u=>I l (iK.1 (aAh.1 hKH l u))) hH ?_ ?_ hcl hKH hdst
 ·have C:∀l,(!gV l H || gV l K || !gV l (D.map (·.1)))=true:=by
   intro l;cases h:gV l H with
   |false=>simp
   |true=>
    cases h2:gV l (D.map (·.1)) with
    |false=>simp
    |true=>
     obtain⟨x,hx,rfl⟩:=aBn.1 (iK.1 h2);simp[L x hx h]
  unfold Ac;simp only[aAr,aAh];exact⟨fun y _ l _=>C l,fun y _ l _=>C l⟩
 ·unfold Nl;rw[aAh];intro x hx;cases B:gV x.1 H with
  |true=>simp
  |false=>
   have h:=aAh.1 M x (aCj.2 ⟨hx,by simp[B]⟩);simp only[aAr,aAh] at h;have E:∀l:List Nat,(!l.contains x.1)=true->(!gV x.1 l)=true:=by
    intro l u;cases h2:gV x.1 l with
    |false=>rfl
    |true=>have:=iK.1 h2;simp at u;exact absurd this u
   simp only[aCi,aAr,aAh];exact .inr ⟨fun y z=>⟨(h.2 y z).1,E _ (h.2 y z).2⟩,fun y z=>E _ (h.1 y z)⟩
end
end Go.Sw
