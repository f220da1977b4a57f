/- The library over the model: how values lie, what is ours in memory, rules for operations, calls, loops. Conditions: none. -/
import Derived.Orders
import Derived.Tactics
import Derived.Below
import Derived.TacticsIn
import Derived.OrdersIn
import Derived.Laws.Rows
import Derived.RangeFuncRecord
import Derived.Laws.StructEq
import Derived.Laws.AppendOwn
import Derived.Laws.CopyRow
import Derived.Laws.MakeOwn
import Derived.Laws.Tables
import Derived.ChangeKeysEq
import Derived.Laws.Cover3
set_option linter.unusedVariables false
set_option linter.unusedSimpArgs false
namespace Go.Sw
abbrev cM:=@Option.bind_some
abbrev pF:=@cond_false
abbrev pT:=@Option.some.inj
abbrev sM:=@List.length_append
abbrev ZY:=@Option.isSome_none
abbrev w9:=@Nat.eq_of_beq_eq_true
abbrev XT:=@cond_true
abbrev ZW:=@decide_eq_false
abbrev A6:=@Nat.le_of_ble_eq_true
abbrev m9:=@Int.toNat_natCast
abbrev E8:=@List.getElem?_eq_getElem
abbrev o7:=@List.all_eq_true
abbrev YQ:=@Nat.le_refl
abbrev u3:=@Option.some.injEq
abbrev WM:=@if_neg
abbrev P3:=@List.getD_eq_getElem?_getD
abbrev C9:=@List.append_assoc
abbrev o6:=@List.mem_cons
abbrev WV:=@if_pos
abbrev C8:=@List.length_cons
abbrev D7:=@List.length_take
abbrev A5:=@decide_eq_true
abbrev E7:=@Bool.and_eq_true
abbrev U4:=@List.take_append_drop
abbrev ig:=@List.eq_nil_of_length_eq_zero
abbrev Z7:=@List.getElem?_eq_none
abbrev P2:=@Bool.false_eq_true
abbrev D8:=@List.map_cons
abbrev R4:=@Nat.lt_of_lt_of_le
abbrev Z6:=@List.mem_cons_of_mem
abbrev K5:=@List.mem_append
abbrev P5:=@List.length_drop
abbrev P4:=@Nat.mod_eq_of_lt
abbrev aw:=@Array.length_toList
abbrev Z8:=@List.mem_cons_self
abbrev j5:=@if_false
abbrev F4:=@decide_false
abbrev ph:=@Array.getD_eq_getD_getElem?
abbrev U7:=@List.nil_append
abbrev U6:=@List.foldl_cons
abbrev M4:=@Prod.mk.injEq
abbrev V8:=@List.length_nil
abbrev Z4:=@List.append_nil
abbrev l3:=@if_true
abbrev M3:=@Nat.lt_or_ge
abbrev cz:=@List.cons_append
abbrev K2:=@Nat.add_mul
abbrev ie:=@Option.isNone_none
abbrev fp:=@List.getElem_mem
abbrev pg:=@List.length_replicate
abbrev vt:=@Int.fdiv_eq_ediv_of_nonneg
abbrev lf:=@List.getElem?_map
abbrev pf:=@List.length_pos_iff
abbrev zo:=@Array.getElem?_eq_some_iff
abbrev bq:=@List.mem_map
abbrev uv:=@List.getElem?_set_ne
abbrev ld:=@List.length_map
abbrev eh:=@Nat.le_trans
abbrev aBs:=@Array.getElem?_eq_getElem
abbrev aBt:=@List.getElem?_append_left
abbrev my:=@Option.map_some
abbrev zn:=@Array.getElem?_eq_none
abbrev kz:=@List.mem_range
abbrev vr:=@Nat.mul_le_mul_right
abbrev qt:=@Bool.not_eq_true'
abbrev iz:=@Bool.not_true
abbrev aB0:=@List.take_of_length_le
abbrev aB1:=@List.getElem?_set_self
abbrev qv:=@Nat.min_eq_left
abbrev uw:=@Bool.not_eq_true
abbrev zq:=@List.filter_append
abbrev qu:=@List.drop_left
abbrev aB6:=@List.getElem?_modify
abbrev aB7:=@List.mem_of_getElem?
abbrev zp:=@BitVec.toNat_ofNat
abbrev jb:=@decide_true
abbrev aCa:=@List.getElem?_eq_some_iff
abbrev zj:=@List.ext_getElem?
abbrev aCc:=@Nat.xor_lt_two_pow
abbrev aCd:=@List.mem_singleton
abbrev zi:=@Option.getD_some
abbrev aCf:=@List.length_eq_one_iff
abbrev vo:=@Bool.not_false
abbrev aCh:=@Array.toList_modify
abbrev zh:=@Bool.or_eq_true
abbrev zg:=@List.mem_filter
abbrev aCk:=@List.zipIdx_cons
abbrev aCl:=@List.not_mem_nil
abbrev qq:=@Nat.one_mul
abbrev zf:=@List.mapM_cons
abbrev ze:=@List.take_left
abbrev aCp:=@List.mem_of_mem_take
abbrev aCq:=@List.getElem?_set
abbrev aCr:=@List.map_append
abbrev aCs:=@List.length_set
abbrev aCt:=@Nat.mul_le_mul
abbrev aCu:=@Option.isSome_some
abbrev qp:=@Nat.mod_lt
abbrev aCw:=@List.length_singleton
abbrev aCx:=@List.length_filter_le
abbrev aCy:=@List.drop_eq_getElem_cons
abbrev aCz:=@List.cons.injEq
abbrev zm:=@Nat.add_comm
abbrev aC1:=@not_true_eq_false
abbrev aC2:=@List.flatten_cons
abbrev aC3:=@decide_eq_true_eq
abbrev zl:=@Nat.beq_refl
abbrev zk:=@Nat.zero_add
abbrev aC6:=@List.foldl_append
abbrev aC7:=@Decidable.not_not
abbrev aC8:=@List.getElem_append_left
abbrev aC9:=@Bool.eq_false_or_eq_true
abbrev ic:=@Ne.symm
abbrev aDb:=@List.filter_eq_self
abbrev aDc:=@List.drop_drop
abbrev aDd:=@List.map_toArray
abbrev aDe:=@List.take_length
abbrev aDf:=@List.any_eq_true
abbrev aDg:=@Nat.and_two_pow_sub_one_eq_mod
abbrev aDh:=@Nat.add_zero
abbrev aDi:=@List.mem_filterMap
abbrev aDj:=@Array.getElem?_setIfInBounds
abbrev aDk:=@List.singleton_append
abbrev aDl:=@Array.toList_push
abbrev aDm:=@Array.getElem?_append_left
abbrev aDn:=@Int.le_refl
abbrev aDo:=@List.mem_append_left
abbrev aDp:=@List.getElem?_append_right
abbrev aDq:=@Nat.mod_two_eq_zero_or_one
abbrev aDr:=@List.mem_of_mem_drop
abbrev aDs:=@List.mem_or_eq_of_mem_set
abbrev aDt:=@List.replicate_succ
abbrev aDu:=@Nat.add_assoc
abbrev aDv:=@Nat.add_sub_cancel
abbrev aDw:=@List.getElem?_replicate
abbrev aDx:=@List.set_eq_take_append_cons_drop
abbrev aDy:=@List.mapM_toArray
abbrev aDz:=@List.drop_eq_nil_of_le
abbrev aD0:=@Array.all_eq_true_iff_forall_mem
abbrev aD1:=@List.map_nil
abbrev aD2:=@Nat.or_lt_two_pow
abbrev aD3:=@Classical.choose_spec
abbrev aD4:=@List.filter_cons
abbrev aD5:=@List.drop_append
abbrev aD6:=@List.mem_flatMap
abbrev aD7:=@List.eq_nil_iff_forall_not_mem
abbrev aD8:=@Array.size_replicate
abbrev zd:=@true_and
abbrev aEa:=@Nat.pow_le_pow_right
abbrev aEb:=@Nat.shiftLeft_add_eq_or_of_lt
abbrev aEc:=@List.getElem_of_mem
abbrev aEd:=@Int.le_of_lt
abbrev aEe:=@Nat.mul_comm
abbrev aEf:=@Nat.succ_mul
abbrev aEg:=@List.idxOf_lt_length_of_mem
abbrev aEh:=@Nat.pow_succ
abbrev aEi:=@and_true
abbrev aEj:=@Array.foldl_toList
abbrev aEk:=@Nat.eq_zero_or_pos
abbrev aEl:=@or_false
abbrev aEm:=@Array.size_append
abbrev aEn:=@List.size_toArray
abbrev aEo:=@List.length_range
abbrev aEp:=@Nat.zero_le
abbrev aEq:=@List.any_eq_false
abbrev aEr:=@List.flatMap_cons
abbrev aEs:=@of_decide_eq_true
abbrev aEt:=@List.mapM_nil
abbrev aEu:=@Bool.true_and
abbrev aEv:=@BitVec.toNat_xor
abbrev aEw:=@BitVec.toNat_and
abbrev aEx:=@Option.getD_none
abbrev aEy:=@List.map_map
abbrev aEz:=@Int.pow_pos
abbrev aE0:=@not_true
abbrev aE1:=@or_self
end Go.Sw
namespace Go.Sw
open Go Go.RowKit
structure Ext (S S':Nat->Prop) (w w':World):Prop where
 size:w.heap.size<=w'.heap.size
 H4:∀k,k<w.heap.size->¬S k->w'.heap[k]? =w.heap[k]?/\¬S' k
theorem Ext.refl(S:Nat->Prop)(w:World):Ext S S w w:=⟨YQ _,fun _ _ h=>⟨rfl,h⟩⟩
theorem Ext.trans{S S' S'':Nat->Prop}{w w' qe:World}(h:Ext S S' w w')(k:Ext S' S'' w' qe):Ext S S'' w qe:=
 ⟨eh h.size k.size,fun i u z=>by
  obtain⟨a,b⟩:=h.H4 i u z;obtain⟨c,d⟩:=k.H4 i (R4 u h.size) b
  exact⟨c.trans a,d⟩⟩
structure Wr (α:Type) where
 n:Nat
 agg:Bool
 ok:α->(Nat->Prop)->World->List Value->Prop
 len:∀{x S w cs},ok x S w cs->cs.length=n
 one:agg=false->n=1
 cell:∀{x S w cs},ok x S w cs->∀c∈cs,c.oneCell'=true
 mono:∀{x S S' w w' cs},ok x S w cs->Ext S S' w w'->ok x S' w' cs
theorem Rk{v:Value}(h:v.oneCell'=true):v.cells= #[v]:=by cases v<;>first | rfl | cases h
def Wr.pk{α:Type}(e:Wr α)(cs:List Value):Value:=if e.agg then .agg cs.toArray else cs.headD undef
def Wr.val{α:Type}(e:Wr α)(x:α)(S:Nat->Prop)(w:World)(v:Value):Prop:=∃cs,e.ok x S w cs/\v=e.pk cs
theorem gS{α:Type}{e:Wr α}{x:α}{S S' w w' v}(h:e.val x S w v)(k:Ext S S' w w'):e.val x S' w' v:=
 let ⟨cs,a,b⟩:=h;⟨cs,e.mono a k,b⟩
inductive Slot:Type 1
 |v {α:Type} (e:Wr α) (x:α)
 |ref (i:Nat)
 |ptr (i off:Nat)
 |fg (i off k n:Nat)
 |el (i k n off:Nat)
 |w8 (i off lo n cap:Nat)
 |mq (i off n cap:Nat)
 |sub (i off n:Nat)
 | YA {α:Type} (e:Wr α) (x:α)
 | ZT (g:Nat) (cap:List Slot)
 |top
 |agg (l:List Slot)
 | WL (l:List Slot)
def WC(w:World)(b off:Nat)(cs:List Value):Prop:=
 ∃c T fr,w.heap[b]? =some (.cells c T fr)/\∀j (h:j<cs.length),c[off+j]? =some cs[j]
def YV(v:Value):Option Nat:=match v with | .pointer (some a)=>some a.block | .slice (some a) _ _=>some a.block | .map (some r)=>some r | _=>none
def Ls(v:Value)(n:Nat):Value:=match v with | .slice (some a) _ _=> .pointer (some ⟨a.block,a.off+n,none⟩) | v=>v
def FT(v:Value)(off n cap:Nat):Value:=match v with | .pointer (some a)=> .slice (some ⟨a.block,off,none⟩) n cap | v=>v
def FU(v:Value)(off n cap:Nat):Value:=match v with | .slice (some a) _ _=> .slice (some ⟨a.block,a.off+off,none⟩) n cap | v=>v
def Tv(v:Value)(off n c:Nat):Value:=match v with | .slice (some a) _ _=> .slice (some ⟨a.block,a.off+off,none⟩) n c | .slice none _ _=> .slice none n c | v=>v
def Cv(v:Value)(n:Nat):Value:=match v with | .pointer (some a)=> .pointer (some ⟨a.block,n,none⟩) | v=>v
structure LV where
 v:Value
 x:Nat->Prop
def LV.of(v:Value):LV:=⟨v,fun _=>False⟩
def qQ(u:LV)(b:Nat):Prop:=YV u.v=some b\/u.x b
theorem pH{v:Value}{b:Nat}:qQ (.of v) b↔YV v=some b:=⟨fun h=>h.elim id False.elim,.inl⟩
def Zv(v:Value):Prop:=(∃a l c,v= .slice a l c)\/∃r,v= .map r
mutual
def Slot.ZD(ρ:Nat->LV)(S:Nat->Prop)(w:World):Slot->List Value->Prop
 | .v e x,h=>e.ok x S w h
 | .ref i,h=>Zv (ρ i).v/\h=[(ρ i).v]
 | .ptr i off,h=>(∃b,(ρ i).v= .pointer (some ⟨b,0,none⟩))/\h=[Cv (ρ i).v off]
 | .fg i off k n,h=>(∃b,(ρ i).v= .pointer (some ⟨b,0,none⟩))/\h=[Cv (ρ i).v (off+k*n)]
 | .el i k n off,h=>(∃b o l c,(ρ i).v= .slice (some ⟨b,o,none⟩) l c)/\h=[Ls (ρ i).v (k*n+off)]
 | .w8 i off u n cap,h=>(∃b,(ρ i).v= .pointer (some ⟨b,0,none⟩))/\h=[FT (ρ i).v (off+u) n cap]
 | .mq i off n cap,h=>(∃b o l c,(ρ i).v= .slice (some ⟨b,o,none⟩) l c)/\h=[FU (ρ i).v off n cap]
 | .sub i off n,h=>(∃a l c,(ρ i).v= .slice a l c)/\∃c o,n<=c/\(o=off\/n=0)/\h=[Tv (ρ i).v o n c]
 | .YA e x,h=>∃b off ds,h=[.pointer (some ⟨b,off,none⟩)]/\b<w.heap.size/\¬S b/\WC w b off ds/\e.ok x S w ds
 | .ZT g cap,h=>∃vs,h=[.func (.func g) #[] vs.toArray]/\aV ρ S w cap vs
 | .top,h=>h=[undef]
 | .agg _,_=>False
 | .WL _,_=>False
def aV(ρ:Nat->LV)(S:Nat->Prop)(w:World):List Slot->List Value->Prop
 | [],vs=>vs=[]
 |s::r,vs=>∃u H6,vs=u::H6/\Slot.ok ρ S w s u/\aV ρ S w r H6
def bN(ρ:Nat->LV)(S:Nat->Prop)(w:World):List Slot->List Value->Prop
 | [],h=>h=[]
 |s::r,h=>∃c d,h=c++d/\Slot.ZD ρ S w s c/\bN ρ S w r d
def Slot.ok(ρ:Nat->LV)(S:Nat->Prop)(w:World):Slot->Value->Prop
 | .v e x,u=>e.val x S w u
 | .ref i,u=>Zv (ρ i).v/\u=(ρ i).v
 | .ptr i off,u=>(∃b,(ρ i).v= .pointer (some ⟨b,0,none⟩))/\u=Cv (ρ i).v off
 | .fg i off k n,u=>(∃b,(ρ i).v= .pointer (some ⟨b,0,none⟩))/\u=Cv (ρ i).v (off+k*n)
 | .el i k n off,u=>(∃b o l c,(ρ i).v= .slice (some ⟨b,o,none⟩) l c)/\u=Ls (ρ i).v (k*n+off)
 | .w8 i off h n cap,u=>(∃b,(ρ i).v= .pointer (some ⟨b,0,none⟩))/\u=FT (ρ i).v (off+h) n cap
 | .mq i off n cap,u=>(∃b o l c,(ρ i).v= .slice (some ⟨b,o,none⟩) l c)/\u=FU (ρ i).v off n cap
 | .sub i off n,u=>(∃a l c,(ρ i).v= .slice a l c)/\∃c o,n<=c/\(o=off\/n=0)/\u=Tv (ρ i).v o n c
 | .YA e x,u=>∃b off ds,u= .pointer (some ⟨b,off,none⟩)/\b<w.heap.size/\¬S b/\WC w b off ds/\e.ok x S w ds
 | .ZT g cap,u=>∃vs,u= .func (.func g) #[] vs.toArray/\aV ρ S w cap vs
 | .top,u=>u=undef
 | .agg l,u=>∃cs,u= .agg cs.toArray/\bN ρ S w l cs
 | .WL l,u=>∃vs,u= .tuple vs.toArray/\aV ρ S w l vs
end
def mO(ρ ρ':Nat->LV)(l:List Nat):Prop:=∀i∈l,(ρ' i).v=(ρ i).v
mutual
def Slot.YJ:Slot->List Nat
 | .ref i=>[i]
 | .ptr i _=>[i]
 | .fg i _ _ _=>[i]
 | .el i _ _ _=>[i]
 | .w8 i _ _ _ _=>[i]
 | .mq i _ _ _=>[i]
 | .sub i _ _=>[i]
 | .ZT _ l=>eA l
 | .agg l=>eA l
 | .WL l=>eA l
 |_=>[]
def eA:List Slot->List Nat
 | []=>[]
 |s::r=>s.YJ++eA r
end
theorem WC.mono{S S':Nat->Prop}{w w':World}{b off:Nat}{cs:List Value}(h:WC w b off cs)(hb:b<w.heap.size)(hs:¬S b)(k:Ext S S' w w'):WC w' b off cs:=by
 obtain⟨c,T,u,z,A⟩:=h;exact⟨c,T,u,by rw[(k.H4 b hb hs).1];exact z,A⟩
section
variable {ρ ρ':Nat->LV}{S S':Nat->Prop}{w w':World}
mutual
theorem vL:∀(s:Slot) (cs:List Value),s.ZD ρ S w cs->Ext S S' w w'->mO ρ ρ' s.YJ->s.ZD ρ' S' w' cs
 | .v e x,cs,h,k,_=>e.mono h k
 | .ref i,cs,h,_,a=>by simp only[Slot.ZD] at h ⊢;rw[a i (by simp[Slot.YJ])];exact h
 | .ptr i u,cs,h,_,a=>by simp only[Slot.ZD] at h ⊢;rw[a i (by simp[Slot.YJ])];exact h
 | .fg i u j n,cs,h,_,a=>by simp only[Slot.ZD] at h ⊢;rw[a i (by simp[Slot.YJ])];exact h
 | .el i k n u,cs,h,_,a=>by simp only[Slot.ZD] at h ⊢;rw[a i (by simp[Slot.YJ])];exact h
 | .w8 i u F n cap,cs,h,_,a=>by simp only[Slot.ZD] at h ⊢;rw[a i (by simp[Slot.YJ])];exact h
 | .mq i u n cap,cs,h,_,a=>by simp only[Slot.ZD] at h ⊢;rw[a i (by simp[Slot.YJ])];exact h
 | .sub i u n,cs,h,_,a=>by simp only[Slot.ZD] at h ⊢;rw[a i (by simp[Slot.YJ])];exact h
 | .YA e x,cs,h,k,_=>by
  simp only[Slot.ZD] at h ⊢;obtain⟨b,u,C,A,z,B,D,E⟩:=h;exact⟨b,u,C,A,R4 z k.size,(k.H4 b z B).2,D.mono z B k,e.mono E k⟩
 | .ZT g cap,cs,h,k,a=>by
  simp only[Slot.ZD] at h ⊢;obtain⟨vs,A,z⟩:=h;exact⟨vs,A,nC cap vs z k (by simpa[Slot.YJ] using a)⟩
 | .top,cs,h,_,_=>by simpa only[Slot.ZD] using h
 | .agg l,cs,h,_,_=>by simp[Slot.ZD] at h
 | .WL l,cs,h,_,_=>by simp[Slot.ZD] at h
theorem nC:∀(l:List Slot) (vs:List Value),aV ρ S w l vs->Ext S S' w w'->mO ρ ρ' (eA l)->aV ρ' S' w' l vs
 | [],vs,h,_,_=>by simpa only[aV] using h
 |s::r,vs,h,k,a=>by
  simp only[aV] at h ⊢;obtain⟨u,A,B,C,D⟩:=h;exact⟨u,A,B,Slot.VP s u C k (fun i z=>a i (by simp[eA,z])),nC r A D k (fun i z=>a i (by simp[eA,z]))⟩
theorem fU:∀(l:List Slot) (vs:List Value),bN ρ S w l vs->Ext S S' w w'->mO ρ ρ' (eA l)->bN ρ' S' w' l vs
 | [],vs,h,_,_=>by simpa only[bN] using h
 |s::r,vs,h,k,a=>by
  simp only[bN] at h ⊢;obtain⟨u,A,B,C,D⟩:=h;exact⟨u,A,B,vL s u C k (fun i z=>a i (by simp[eA,z])),fU r A D k (fun i z=>a i (by simp[eA,z]))⟩
theorem Slot.VP:∀(s:Slot) (u:Value),s.ok ρ S w u->Ext S S' w w'->mO ρ ρ' s.YJ->s.ok ρ' S' w' u
 | .v e x,z,h,k,_=>by simp only[Slot.ok] at h ⊢;exact gS h k
 | .ref i,z,h,_,a=>by simp only[Slot.ok] at h ⊢;rw[a i (by simp[Slot.YJ])];exact h
 | .ptr i B,z,h,_,a=>by simp only[Slot.ok] at h ⊢;rw[a i (by simp[Slot.YJ])];exact h
 | .fg i B j n,z,h,_,a=>by simp only[Slot.ok] at h ⊢;rw[a i (by simp[Slot.YJ])];exact h
 | .el i k n B,z,h,_,a=>by simp only[Slot.ok] at h ⊢;rw[a i (by simp[Slot.YJ])];exact h
 | .w8 i B H n cap,z,h,_,a=>by simp only[Slot.ok] at h ⊢;rw[a i (by simp[Slot.YJ])];exact h
 | .mq i B n cap,z,h,_,a=>by simp only[Slot.ok] at h ⊢;rw[a i (by simp[Slot.YJ])];exact h
 | .sub i B n,z,h,_,a=>by simp only[Slot.ok] at h ⊢;rw[a i (by simp[Slot.YJ])];exact h
 | .YA e x,z,h,k,_=>by
  simp only[Slot.ok] at h ⊢;obtain⟨b,B,E,C,A,D,F,G⟩:=h;exact⟨b,B,E,C,R4 A k.size,(k.H4 b A D).2,F.mono A D k,e.mono G k⟩
 | .ZT g cap,z,h,k,a=>by
  simp only[Slot.ok] at h ⊢;obtain⟨vs,C,A⟩:=h;exact⟨vs,C,nC cap vs A k (by simpa[Slot.YJ] using a)⟩
 | .top,z,h,_,_=>by simpa only[Slot.ok] using h
 | .agg l,z,h,k,a=>by
  simp only[Slot.ok] at h ⊢;obtain⟨vs,C,A⟩:=h;exact⟨vs,C,fU l vs A k (by simpa[Slot.YJ] using a)⟩
 | .WL l,z,h,k,a=>by
  simp only[Slot.ok] at h ⊢;obtain⟨vs,C,A⟩:=h;exact⟨vs,C,nC l vs A k (by simpa[Slot.YJ] using a)⟩
end
end
def Wr.YY{α:Type}(e:Wr α):List α->(Nat->Prop)->World->List Value->Prop
 | [],_,_,h=>h=[]
 |x::xs,S,w,h=>∃c d,h=c++d/\e.ok x S w c/\Wr.YY e xs S w d
section
variable {α:Type}{e:Wr α}{S S':Nat->Prop}{w w':World}
theorem Wr.VX:∀{xs:List α} {cs},e.YY xs S w cs->Ext S S' w w'->e.YY xs S' w' cs
 | [],_,h,_=>h
 |_::_,_,⟨c,d,u,z,A⟩,k=>⟨c,d,u,e.mono z k,Wr.VX A k⟩
theorem cP:∀{xs:List α} {cs},e.YY xs S w cs->cs.length=xs.length*e.n
 | [],_,h=>by simp only[Wr.YY] at h;simp[h]
 |x::xs,_,⟨c,d,u,z,A⟩=>by rw[u,sM,e.len z,cP A,C8,K2,qq,zm]
theorem rI:∀{xs:List α} {cs},e.YY xs S w cs->∀c∈cs,c.oneCell'=true
 | [],_,h=>by simp only[Wr.YY] at h;simp[h]
 |x::xs,_,⟨c,d,z,A,B⟩=>by
  intro y u;rw[z] at u;rcases K5.1 u with u | u
  ·exact e.cell A y u
  ·exact rI B y u
theorem gM:∀{xs ys:List α} {cs ds},e.YY xs S w cs->e.YY ys S w ds->e.YY (xs++ys) S w (cs++ds)
 | [],_,_,_,h,k=>by simp only[Wr.YY] at h;simpa[h] using k
 |x::xs,ys,_,ds,⟨c,d,u,z,A⟩,k=>⟨c,d++ds,by rw[u,C9],z,gM A k⟩
theorem zB:∀{xs ys:List α} {cs},e.YY (xs++ys) S w cs->∃c d,cs=c++d/\e.YY xs S w c/\e.YY ys S w d
 | [],_,cs,h=>⟨[],cs,rfl,rfl,h⟩
 |x::xs,ys,_,⟨c,d,D,E,F⟩=>by
  obtain⟨u,z,A,B,C⟩:=zB (xs:=xs) F;exact⟨c++u,z,by rw[D,A,C9],⟨c,u,rfl,E,B⟩,C⟩
theorem qR{xs:List α}{cs}(h:e.YY xs S w cs){i:Nat}{x:α}(hx:xs[i]? =some x):
  ∃a c b,cs=a++(c++b)/\a.length=i*e.n/\e.ok x S w c/\(∀y c',e.ok y S w c'->e.YY (xs.set i y) S w (a++(c'++b))):=by
 have u:i<xs.length:=by
  rcases M3 i xs.length with h | h
  ·exact h
  ·simp[Z7 h] at hx
 have B:xs[i]=x:=by simpa[E8 u] using hx
 have C:xs=xs.take i++(x::xs.drop (i+1)):=by
  rw[<-B,List.getElem_cons_drop,U4]
 have z:=h;rw[C] at z;obtain⟨a,d,E,A,c,b,F,G,H⟩:=zB z;refine⟨a,c,b,by rw[E,F],?_,G,fun y c' D=>?_⟩
 ·rw[cP A,D7];rw[qv (Nat.le_of_lt u)]
 ·have:xs.set i y=xs.take i++(y::xs.drop (i+1)):=by
   rw[aDx,WV u]
  rw[this];exact gM A ⟨c',b,rfl,D,H⟩
end
structure DE (α:Type) where
 ok:α->(Nat->Prop)->World->LV->List Value->Prop
 mono:∀{x:α} {S S':Nat->Prop} {w w':World} {u:LV} {l:List Value},ok x S w u l->Ext S S' w w'->(∀b,qQ u b->w'.heap[b]? =w.heap[b]?)->ok x S' w' u l
inductive VS:Type 1
 |box (T:TypeId) (l:List Slot) (pb:Option Nat:=none)
 |arr {α:Type} (T:TypeId) (e:Wr α) (xs:List α)
 |mp {α β:Type} (e:Wr α) (f:Wr β) (m:List (α×β))
 |dp {α:Type} (D:DE α) (x:α) (ls:List Nat)
def Xl{α β:Type}(e:Wr α)(f:Wr β)(S:Nat->Prop)(w:World):List (α×β)->List MapEntry->Prop
 | [],[]=>True
 | (k,v)::m,x::xs=>e.val k S w x.key/\f.val v S w x.val/\Xl e f S w m xs
 |_,_=>False
theorem zK{α β:Type}{e:Wr α}{f:Wr β}{S S':Nat->Prop}{w w':World}(k:Ext S S' w w'):∀{m:List (α×β)} {xs:List MapEntry},Xl e f S w m xs->Xl e f S' w' m xs
 | [],[],_=>trivial
 | (_,_)::_,_::_,⟨u,z,A⟩=>⟨gS u k,gS z k,zK k A⟩
 | [],_::_,h=>h
 |_::_,[],h=>h
def VS.ok(ρ:Nat->LV)(S:Nat->Prop)(w:World)(u:LV):VS->Prop
 | .box T l h=>(∃b cs,u.v= .pointer (some ⟨b,0,none⟩)/\w.heap[b]? =some (.cells cs.toArray T (0,0))/\bN ρ S w l cs)/\∀c,h=some c->u.v= .pointer (some ⟨c,0,none⟩)
 | .arr T e xs=>(xs=[]/\u.v= .slice none 0 0)\/∃b cap pre cs post,u.v= .slice (some ⟨b,pre.length,none⟩) xs.length cap/\
   w.heap[b]? =some (.cells (pre++(cs++post)).toArray T (0,0))/\e.YY xs S w cs/\xs.length<=cap/\cap*e.n<=cs.length+post.length/\xs.length<=140737488355328
 | .mp e f m=>∃b es ck,u.v= .map (some b)/\w.heap[b]? =some (.map es ck)/\Xl e f S w m es.toList
 | .dp D x z=>D.ok x S w u (z.map fun l=>(ρ l).v)
def VS.YJ:VS->List Nat
 | .box _ l _=>eA l
 | .arr _ _ _=>[]
 | .mp _ _ _=>[]
 | .dp _ _ h=>h
theorem VS.VP{ρ ρ':Nat->LV}{S S':Nat->Prop}{w w':World}{u:LV}{en:VS}(h:en.ok ρ S w u)(k:Ext S S' w w')(a:mO ρ ρ' en.YJ)
  (hb:∀b,qQ u b->w'.heap[b]? =w.heap[b]?):en.ok ρ' S' w' u:=by
 cases en with
 |box T l O=>
  obtain⟨⟨b,C,z,A,B⟩,E⟩:=h;exact⟨⟨b,C,z,by rw[hb b (.inl (by simp[z,YV]))];exact A,fU l C B k a⟩,E⟩
 |arr T e xs=>
  rcases h with h |⟨b,K,L,C,M,z,A,B,E,N⟩
  ·exact .inl h
  ·exact .inr ⟨b,K,L,C,M,z,by rw[hb b (.inl (by simp[z,YV]))];exact A,Wr.VX B k,E,N⟩
 |mp e f m=>
  obtain⟨b,H,I,z,A,B⟩:=h;exact⟨b,H,I,z,by rw[hb b (.inl (by simp[z,YV]))];exact A,zK k B⟩
 |dp D x F=>
  have:=D.mono h k hb;simp only[VS.ok];have e:(F.map fun l=>(ρ' l).v)=F.map fun l=>(ρ l).v:=List.map_congr_left fun l G=>a l G;rw[e];exact this
def lk:List (Nat×Slot)->Nat->Option Slot
 | [],_=>none
 | (i,s)::r,t=>bif Nat.beq i t then some s else lk r t
def aW:List (Nat×VS)->Nat->Option VS
 | [],_=>none
 | (i,s)::r,t=>bif Nat.beq i t then some s else aW r t
structure AS:Type 1 where
 g:List (Nat×Slot)
 d:List (Nat×VS)
structure XG where
 P:Program
 N:Nat
 S0:Nat->Prop
 w0:World
 R:Nat->Prop
 rd:Option Nat
 df:List Deferred
def mP(ρ:Nat->LV)(d:List (Nat×VS))(k:Nat):Prop:=∃i en,aW d i=some en/\qQ (ρ i) k
def Un(S:Nat->Prop)(ρ:Nat->LV)(d:List (Nat×VS))(k:Nat):Prop:=S k\/mP ρ d k
structure Core (F:XG) (d:List (Nat×VS)) (ρ:Nat->LV) (w:World):Prop where
 low:∀k,F.S0 k->k<F.w0.heap.size
 size:F.w0.heap.size<=w.heap.size
 frame:∀k,k<F.w0.heap.size->¬F.R k->w.heap[k]? =F.w0.heap[k]?
 os:w.os=F.w0.os
 tape:w.tape=F.w0.tape
 output:w.output=F.w0.output
 own:∀i en,aW d i=some en->en.ok ρ (Un F.S0 ρ d) w (ρ i)
 fresh:∀i en b,aW d i=some en->qQ (ρ i) b->(F.w0.heap.size<=b\/F.R b)/\b<w.heap.size
 inj:∀i j en en' b,aW d i=some en->aW d j=some en'->qQ (ρ i) b->qQ (ρ j) b->i=j
 apart:∀i en b,aW d i=some en->qQ (ρ i) b->¬F.S0 b
structure St (F:XG) (σ:AS) (a:Act) (w:World):Prop where
 core:∃ρ,Core F σ.d ρ w/\∀t s,lk σ.g t=some s->s.ok ρ (Un F.S0 ρ σ.d) w (a.tmps.getD t undef)
 size:a.tmps.size=F.N
 defers:a.defers=F.df
end Go.Sw
namespace Go.Sw
open Go Go.RowKit
def Ea(k:IntKind)(n:Int):Prop:=k.min<=n/\n<=k.max
instance (k:IntKind) (n:Int):Decidable (Ea k n):=inferInstanceAs (Decidable (_/\_))
def Wr.int(k:IntKind):Wr Int where
 n:=1
 agg:=false
 ok x _ _ cs:=cs=[.int k x]/\Ea k x
 len h:=by rw[h.1];rfl
 one _:=rfl
 cell h c hc:=by rw[h.1] at hc;simp at hc;subst hc;rfl
 mono h _:=h
def Wr.bool:Wr Bool where
 n:=1
 agg:=false
 ok x _ _ cs:=cs=[.bool x]
 len h:=by rw[h];rfl
 one _:=rfl
 cell h c hc:=by rw[h] at hc;simp at hc;subst hc;rfl
 mono h _:=h
def Wr.str:Wr ByteArray where
 n:=1
 agg:=false
 ok x _ _ cs:=cs=[.string x]/\x.size<=9223372036854775807
 len h:=by rw[h.1];rfl
 one _:=rfl
 cell h c hc:=by rw[h.1] at hc;simp at hc;subst hc;rfl
 mono h _:=h
theorem Eb{k:IntKind}{x:Int}{S w u}:(Wr.int k).val x S w u↔u= .int k x/\Ea k x:=by
 constructor
 ·rintro⟨z,⟨rfl,h⟩,rfl⟩;exact⟨rfl,h⟩
 ·rintro⟨rfl,h⟩;exact⟨_,⟨rfl,h⟩,rfl⟩
theorem zL{x:Bool}{S w u}:Wr.bool.val x S w u↔u= .bool x:=by
 constructor
 ·rintro⟨h,rfl,rfl⟩;rfl
 ·rintro rfl;exact⟨_,rfl,rfl⟩
theorem LI{x:ByteArray}{S w u}:Wr.str.val x S w u↔u= .string x/\x.size<=9223372036854775807:=by
 constructor
 ·rintro⟨z,⟨rfl,h⟩,rfl⟩;exact⟨rfl,h⟩
 ·rintro⟨rfl,h⟩;exact⟨_,⟨rfl,h⟩,rfl⟩
def VU(P:Program)(o:Oper)(a:Act)(w:World)(K:Value->World->Prop):Prop:=
 (∃v w',(execOp a.eval o).run P w= .ok (.value v) w'/\K v w')\/(∃w',(execOp a.eval o).run P w= .ok .skip w'/\K undef w')\/
 (∃f args w',(execOp a.eval o).run P w= .ok (.enter f args) w'/\Calls P f args w' fun e h=>∃v,e= .returned v/\K v h)\/
 (∃l f tmps assign body w',(execOp a.eval o).run P w= .ok (.round l f tmps assign body) w'/\RoundIn Fence.wide 0 P l f tmps assign body w' fun e h=>∃v,e= .returned v/\K v h)
theorem Ao{P:Program}{o:Oper}{a:Act}{w w':World}{x:Next}(h:(execOp a.eval o).run P w= .ok x w')(hx:∀d,x≠.defer d)(l:Option Nat):o.semAt l a.eval=execOp a.eval o:=by
 refine Oper.semAt_eq _ _ _ fun c u=>?_;unfold execOp at h;rw[u] at h;simp only[Sem.run_bind] at h;cases hr:(resolve a.eval c o.type).run P w with
 |ok d z=>rw[hr] at h;simp at h;exact hx d h.1.symm
 |halt x z=>rw[hr] at h;simp at h
abbrev XG.fe(F:XG):Fence:={ Fence.wide with round:=F.rd }
theorem VU.wpIn{P:Program}{o:Oper}{a:Act}{w:World}{K:Value->World->Prop}(h:VU P o a w K){l:Option Nat}{next:Act->World->Prop}{Q:Exit->Act->World->Prop}(hn:∀v w',K v w'->next (a.put o.dst v) w'):
  o.wpIn { Fence.wide with round:=l } 0 P a w next Q:=by
 refine⟨fun _ _=>trivial,?_⟩;rcases h with⟨v,w',h,k⟩|⟨w',h,k⟩|⟨f,D,w',h,k⟩|⟨z,f,A,B,body,w',h,k⟩
 ·rw[Ao h (fun _ h=>by cases h),h];exact hn v w' k
 ·rw[Ao h (fun _ h=>by cases h),h];exact hn undef w' k
 ·rw[Ao h (fun _ h=>by cases h),h];refine⟨fun h=>(by cases h),?_⟩;refine CallsIn.mono (callsIn_wide.2 k) ?_;rintro e C ⟨v,rfl,u⟩;exact hn _ _ u
 ·rw[Ao h (fun _ h=>by cases h),h];refine⟨fun h=>(by cases h),?_⟩;refine RoundIn.mono (show RoundIn { Fence.wide with round:=l } (0 - 1) P z f A B body w' _ from k) ?_;rintro e C ⟨v,rfl,u⟩;exact hn _ _ u
theorem VU.value{P:Program}{o:Oper}{a:Act}{w w':World}{v:Value}{K:Value->World->Prop}(h:(execOp a.eval o).run P w= .ok (.value v) w')(k:K v w'):VU P o a w K:= .inl ⟨v,w',h,k⟩
theorem VU.skip{P:Program}{o:Oper}{a:Act}{w w':World}{K:Value->World->Prop}(h:(execOp a.eval o).run P w= .ok .skip w')(k:K undef w'):VU P o a w K:= .inr (.inl ⟨w',h,k⟩)
theorem VU.enter{P:Program}{o:Oper}{a:Act}{w w':World}{f:FuncId}{args:Array Value}{K:Value->World->Prop}(h:(execOp a.eval o).run P w= .ok (.enter f args) w')
  (k:Calls P f args w' fun e qe=>∃v,e= .returned v/\K v qe):VU P o a w K:= .inr (.inr (.inl ⟨f,args,w',h,k⟩))
theorem VU.mono{P:Program}{o:Oper}{a:Act}{w:World}{K K':Value->World->Prop}(h:VU P o a w K)(k:∀v w',K v w'->K' v w'):VU P o a w K':=by
 rcases h with⟨v,w',h,u⟩|⟨w',h,u⟩|⟨f,C,w',h,u⟩|⟨D,f,E,F,body,w',h,u⟩
 ·exact .inl ⟨v,w',h,k _ _ u⟩
 ·exact .inr (.inl ⟨w',h,k _ _ u⟩)
 ·exact .inr (.inr (.inl ⟨f,C,w',h,u.mono fun e B ⟨v,z,A⟩=>⟨v,z,k _ _ A⟩⟩))
 ·exact .inr (.inr (.inr ⟨D,f,E,F,body,w',h,u.mono fun e B ⟨v,z,A⟩=>⟨v,z,k _ _ A⟩⟩))
def FV:Value->Option Slot
 | .int k n=>if Ea k n then some (.v (Wr.int k) n) else none
 | .bool b=>some (.v Wr.bool b)
 | .string s=>if s.size<=9223372036854775807 then some (.v Wr.str s) else none
 |_=>none
def dB(g:List (Nat×Slot)):Operand->Option Slot
 | .tmp t=>lk g t
 | .const u=>FV u
 |_=>none
theorem Lt{u:Value}{s:Slot}(h:FV u=some s)(ρ:Nat->LV)(S:Nat->Prop)(w:World):s.ok ρ S w u/\s.YJ=[]:=by
 cases u<;>simp only[FV] at h
 case int k n=>
  split at h
  ·rename_i z;cases h;exact⟨by simp only[Slot.ok];exact Eb.2 ⟨rfl,z⟩,rfl⟩
  ·cases h
 case bool b=>cases h;exact⟨by simp only[Slot.ok];exact zL.2 rfl,rfl⟩
 case string b=>
  split at h
  ·rename_i z;cases h;exact⟨by simp only[Slot.ok];exact LI.2 ⟨rfl,z⟩,rfl⟩
  ·cases h
 all_goals cases h
structure nb (ρ:Nat->LV) (S:Nat->Prop) (w w':World) (new:List (Nat×VS)):Prop where
 own:∀i en,aW new i=some en->en.ok ρ S w' (ρ i)
 fresh:∀i en b,aW new i=some en->qQ (ρ i) b->w.heap.size<=b/\b<w'.heap.size
 inj:∀i j en en' b,aW new i=some en->aW new j=some en'->qQ (ρ i) b->qQ (ρ j) b->i=j
def XV(ρ:Nat->LV)(S:Nat->Prop)(w:World)(s:Slot)(new:List (Nat×VS))(v:Value)(w':World):Prop:=
 ∃ρ',(∀i,aW new i=none->ρ' i=ρ i)/\Below w.heap.size w w'/\s.ok ρ' (Un S ρ' new) w' v/\nb ρ' (Un S ρ' new) w w' new
structure p3 (σ:AS) (xs:Array Operand) (ρ:Nat->LV) (S:Nat->Prop) (a:Act) (w:World):Prop where
 low:∀k,S k->k<w.heap.size
 slot:∀x∈xs,∀s,dB σ.g x=some s->s.ok ρ S w (a.eval x)
 B9:∀x∈xs,∀s,dB σ.g x=some s->∀i∈s.YJ,∀en,aW σ.d i=some en->en.ok ρ S w (ρ i)/\∀b,qQ (ρ i) b->S b/\b<w.heap.size
def JO(F:XG)(o:Oper)(σ:AS)(s:Slot)(new:List (Nat×VS)):Prop:=
 ∀ρ S a w,p3 σ o.op.operands ρ S a w->VU F.P o a w (XV ρ S w s new)
def AS.put(σ:AS)(dst:Option Tmp)(s:Slot)(new:List (Nat×VS)):AS:=
 ⟨match dst with | some d=>(d,s)::σ.g | none=>σ.g,new++σ.d⟩
def AS.free(σ:AS)(new:List (Nat×VS)):Bool:=
 new.all fun x=>(σ.g.all fun y=> !y.2.YJ.contains x.1) && σ.d.all fun y=> !Nat.beq y.1 x.1 && !y.2.YJ.contains x.1
def gR(dst:Option Tmp)(n:Nat):Bool:=match dst with | some d=>Nat.blt d n | none=>true
theorem gN(l r:List (Nat×VS))(i:Nat):aW (l++r) i=(aW l i).or (aW r i):=by
 induction l with
 |nil=>simp[aW]
 |cons x l h=>
  obtain⟨j,u⟩:=x;simp only[cz,aW];cases Nat.beq j i<;>simp[h]
theorem mQ{l:List (Nat×VS)}{i:Nat}{en:VS}(h:aW l i=some en):(i,en)∈l:=by
 induction l with
 |nil=>simp[aW] at h
 |cons x l u=>
  obtain⟨j,z⟩:=x;simp only[aW] at h;cases hb:Nat.beq j i with
  |true=>rw[hb] at h;simp at h;subst h;have:=w9 hb;subst this;exact Z8
  |false=>rw[hb] at h;exact Z6 _ (u h)
theorem Lu{l:List (Nat×Slot)}{i:Nat}{s:Slot}(h:lk l i=some s):(i,s)∈l:=by
 induction l with
 |nil=>simp[lk] at h
 |cons x l u=>
  obtain⟨j,z⟩:=x;simp only[lk] at h;cases hb:Nat.beq j i with
  |true=>rw[hb] at h;simp at h;subst h;have:=w9 hb;subst this;exact Z8
  |false=>rw[hb] at h;exact Z6 _ (u h)
theorem lB{σ:AS}{new:List (Nat×VS)}(h:σ.free new=true){i:Nat}{en:VS}(hi:aW new i=some en):
  (∀t s,lk σ.g t=some s->i∉s.YJ)/\aW σ.d i=none/\∀j e,aW σ.d j=some e->i∉e.YJ:=by
 have u:=o7.1 h _ (mQ hi);simp only[E7,o7] at u;obtain⟨u,A⟩:=u;refine⟨fun t s B z=>?_,?_,fun j e C z=>?_⟩
 ·have:=u _ (Lu B);simp at this;exact this z
 ·cases hd:aW σ.d i with
  |none=>rfl
  |some e=>
   have:=(A _ (mQ hd)).1;simp at this
 ·have:=(A _ (mQ C)).2;simp at this;exact this z
theorem rJ{w w':World}(h:Below w.heap.size w w'){S S':Nat->Prop}(hs:∀k,k<w.heap.size->S' k->S k):Ext S S' w w':=
 ⟨h.size,fun k u z=>⟨h.block k u,fun A=>z (hs k u A)⟩⟩
theorem Core.put{F:XG}{d new:List (Nat×VS)}{ρ ρ':Nat->LV}{w w':World}{σ:AS}(hσ:σ.d=d)(hc:Core F d ρ w)(hf:σ.free new=true)(hρ:∀i,aW new i=none->ρ' i=ρ i)
  (hb:Below w.heap.size w w') (hn:nb ρ' (Un (Un F.S0 ρ d) ρ' new) w w' new):
  Core F (new++d) ρ' w'/\(∀k,Un F.S0 ρ' (new++d) k↔Un (Un F.S0 ρ d) ρ' new k)/\Ext (Un F.S0 ρ d) (Un F.S0 ρ' (new++d)) w w':=by
 subst hσ
 have D:∀i u,aW σ.d i=some u->ρ' i=ρ i:=fun i u h=>hρ i (by
  cases hx:aW new i with
  |none=>rfl
  |some e=>rw[(lB hf hx).2.1] at h;cases h)
 have K:∀k,Un F.S0 ρ' (new++σ.d) k↔Un (Un F.S0 ρ σ.d) ρ' new k:=by
  intro k;constructor
  ·rintro (h |⟨i,u,z,A⟩)
   ·exact .inl (.inl h)
   ·rw[gN] at z;cases hx:aW new i with
    |some e=>exact .inr ⟨i,e,hx,A⟩
    |none=>rw[hx] at z;simp at z;exact .inl (.inr ⟨i,u,z,by rw[<-D i u z];exact A⟩)
  ·rintro ((h |⟨i,u,z,A⟩) |⟨i,u,z,A⟩)
   ·exact .inl h
   ·refine .inr ⟨i,u,?_,by rw[D i u z];exact A⟩;rw[gN];cases hx:aW new i with
    |some e=>rw[(lB hf hx).2.1] at z;cases z
    |none=>simpa using z
   ·exact .inr ⟨i,u,by rw[gN,z];rfl,A⟩
 have N:Ext (Un F.S0 ρ σ.d) (Un F.S0 ρ' (new++σ.d)) w w':=by
  refine rJ hb fun k L h=>?_;rcases (K k).1 h with h |⟨i,u,z,A⟩
  ·exact h
  ·have:=(hn.fresh i u k z A).1;omega
 have P:Ext (Un (Un F.S0 ρ σ.d) ρ' new) (Un F.S0 ρ' (new++σ.d)) w' w':=⟨YQ _,fun k _ h=>⟨rfl,fun hc=>h ((K k).1 hc)⟩⟩
 refine⟨⟨hc.low,eh hc.size hb.size,fun k L Q=>(hb.block k (R4 L hc.size)).trans (hc.frame k L Q),hb.os.trans hc.os,hb.tape.trans hc.tape,hb.output.trans hc.output,?_,?_,?_,?_⟩,K,N⟩
 ·intro i u h;rw[gN] at h;cases hx:aW new i with
  |some e=>
   rw[hx] at h;simp at h;subst h;exact VS.VP (hn.own i e hx) P (fun _ _=>rfl) (fun _ _=>rfl)
  |none=>
   rw[hx] at h;simp at h;rw[D i u h];refine VS.VP (hc.own i u h) N (fun j B=>congrArg LV.v (hρ j ?_)) (fun b C=>hb.block b (hc.fresh i u b h C).2);cases hy:aW new j with
   |none=>rfl
   |some e=>exact absurd B ((lB hf hy).2.2 i u h)
 ·intro i u b h C;rw[gN] at h;cases hx:aW new i with
  |some e=>
   obtain⟨z,A⟩:=hn.fresh i e b hx C;exact⟨.inl (eh hc.size z),A⟩
  |none=>
   rw[hx] at h;simp at h;rw[D i u h] at C;obtain⟨z,A⟩:=hc.fresh i u b h C;exact⟨z,R4 A hb.size⟩
 ·intro i j u I b E B H G;rw[gN] at E B;cases hx:aW new i with
  |some e=>
   cases hy:aW new j with
   |some M=>exact hn.inj i j e M b hx hy H G
   |none=>
    rw[hy] at B;simp at B;rw[D j I B] at G;have z:=(hn.fresh i e b hx H).1;have A:=(hc.fresh j I b B G).2;omega
  |none=>
   rw[hx] at E;simp at E;rw[D i u E] at H;cases hy:aW new j with
   |some M=>
    have z:=(hn.fresh j M b hy G).1;have A:=(hc.fresh i u b E H).2;omega
   |none=>
    rw[hy] at B;simp at B;rw[D j I B] at G;exact hc.inj i j u I b E B H G
 ·intro i u b h C O;rw[gN] at h;cases hx:aW new i with
  |some e=>
   have z:=(hn.fresh i e b hx C).1;have A:=hc.low b O;have R:=hc.size;omega
  |none=>
   rw[hx] at h;simp at h;rw[D i u h] at C;exact hc.apart i u b h C O
theorem lC(a:Act)(dst:Option Tmp)(v:Value):(a.put dst v).tmps.size=a.tmps.size:=by
 cases dst<;>simp[Act.put]
theorem lD(a:Act)(d:Tmp)(v:Value)(t:Tmp)(h:d<a.tmps.size):(a.put (some d) v).tmps.getD t undef=if d=t then v else a.tmps.getD t undef:=by
 simp only[Act.put,ph,aDj];split
 ·simp_all
 ·rfl
theorem St.put{F:XG}{σ:AS}{dst:Option Tmp}{s:Slot}{new:List (Nat×VS)}{ρ:Nat->LV}{a:Act}{w w':World}{v:Value}
  (hc:Core F σ.d ρ w) (hs:∀t s,lk σ.g t=some s->s.ok ρ (Un F.S0 ρ σ.d) w (a.tmps.getD t undef)) (hz:a.tmps.size=F.N) (hd:a.defers=F.df)
  (hf:σ.free new=true) (c9:gR dst F.N=true) (hr:XV ρ (Un F.S0 ρ σ.d) w s new v w'):St F (σ.put dst s new) (a.put dst v) w':=by
 obtain⟨ρ',B,E,G,H⟩:=hr;obtain⟨I,K,L⟩:=hc.put rfl hf B E H;refine⟨⟨ρ',I,?_⟩,by rw[lC,hz],by cases dst<;>exact hd⟩;have z:∀t s,lk σ.g t=some s->s.ok ρ' (Un F.S0 ρ' (new++σ.d)) w' (a.tmps.getD t undef):=fun t s u=>
  Slot.VP s _ (hs t s u) L (fun j D=>congrArg LV.v (B j (by
   cases hy:aW new j with
   |none=>rfl
   |some e=>exact absurd D ((lB hf hy).1 t s u))))
 intro t A u;cases dst with
 |none=>exact z t A u
 |some d=>
  simp only[AS.put,lk] at u;have C:d<a.tmps.size:=by rw[hz];exact A6 c9
  rw[lD a d v t C];cases hb:Nat.beq d t with
  |true=>
   have:=w9 hb;rw[hb] at u;simp at u;subst u;rw[WV this];exact Slot.VP s v G ⟨YQ _,fun k _ h=>⟨rfl,fun hc=>h ((K k).1 hc)⟩⟩ (fun _ _=>rfl)
  |false=>
   have:d≠t:=fun e=>by subst e;simp at hb
   rw[hb] at u;rw[WM this];exact z t A u
theorem Rl(a:Act)(t:Tmp):a.eval (.tmp t)=a.tmps.getD t undef:=rfl
theorem cI{F:XG}{σ:AS}{ρ:Nat->LV}{a:Act}{w:World}(hc:Core F σ.d ρ w)
  (hs:∀t s,lk σ.g t=some s->s.ok ρ (Un F.S0 ρ σ.d) w (a.tmps.getD t undef)) (xs:Array Operand):p3 σ xs ρ (Un F.S0 ρ σ.d) a w:=by
 refine⟨fun k A=>?_,fun x _ s h=>?_,fun x _ s h i G z B=>⟨hc.own i z B,fun b C=>⟨.inr ⟨i,z,B,C⟩,(hc.fresh i z b B C).2⟩⟩⟩
 ·rcases A with A |⟨i,z,D,E⟩
  ·exact R4 (hc.low k A) hc.size
  ·exact(hc.fresh i z k D E).2
 cases x with
 |tmp t=>exact hs t s h
 |const u=>exact(Lt h ρ _ w).1
 |global g=>cases h
 |func f=>cases h
def GK(ops:Array Oper)(g:List (Nat×Slot))(o:Oper)(b:Bool):Prop:=
 match o.guard with
 |none=>b=true
 |some (j,want)=>(∃t x,(ops[j]?).bind (·.dst)=some t/\lk g t=some (.v Wr.bool x)/\(x==want)=b)\/(b=false/\∃t,(ops[j]?).bind (·.dst)=some t/\lk g t=some .top)
theorem GK.none{ops:Array Oper}{g:List (Nat×Slot)}{o:Oper}(h:o.guard= .none):GK ops g o true:=by unfold GK;rw[h]
theorem GK.some{ops:Array Oper}{g:List (Nat×Slot)}{o:Oper}{j:Nat}{want:Bool}(t:Tmp)(x:Bool)(b:Bool)(h:o.guard= .some (j,want))(ht:(ops[j]?).bind (·.dst)= .some t)
  (hx:lk g t= .some (.v Wr.bool x)) (hb:(x==want)=b):GK ops g o b:=by unfold GK;rw[h];exact .inl ⟨t,x,ht,hx,hb⟩
theorem tZ{ops:Array Oper}{g:List (Nat×Slot)}{o:Oper}{j:Nat}{want:Bool}(t:Tmp)(h:o.guard= .some (j,want))(ht:(ops[j]?).bind (·.dst)= .some t)
  (hx:lk g t= .some .top):GK ops g o false:=by unfold GK;rw[h];exact .inr ⟨rfl,t,ht,hx⟩
theorem zM{ops:Array Oper}{g:List (Nat×Slot)}{o:Oper}{b:Bool}(h:GK ops g o b){ρ S w}{a:Act}
  (hs:∀t s,(∃j want,o.guard=Option.some (j,want)/\(ops[j]?).bind (·.dst)=Option.some t)->lk g t=Option.some s->s.ok ρ S w (a.tmps.getD t undef)):
  Region.wanted o (yielded ops a.tmps)=b:=by
 unfold GK at h;unfold Region.wanted;split at h
 ·rename_i u;rw[u];exact h.symm
 ·rename_i j want u;rcases h with⟨t,x,A,B,C⟩|⟨rfl,t,A,B⟩
  ·have:=hs t _ ⟨j,want,u,A⟩ B;simp only[Slot.ok] at this;have z:=zL.1 this;rw[u];simp only[yielded,A,cM];have:a.tmps[t]? =Option.some (.bool x):=by
    rw[ph] at z;cases hq:a.tmps[t]? with
    |none=>rw[hq] at z;simp[undef] at z
    |some y=>rw[hq] at z;simpa using z
   rw[this];simp only;rw[<-C];cases x<;>cases want<;>rfl
  ·have:=hs t _ ⟨j,want,u,A⟩ B;simp only[Slot.ok] at this;rw[u];simp only[yielded,A,cM];rw[ph] at this;cases hq:a.tmps[t]? with
   |none=>rfl
   |some y=>rw[hq] at this;simp at this;subst this;rfl
def J(F:XG)(ops:Array Oper)(os:List Oper)(σ σ':AS):Prop:=
 ∀Q rest a w,St F σ a w->(∀a' w',St F σ' a' w'->wpListIn F.fe 0 F.P ops Q rest a' w')->wpListIn F.fe 0 F.P ops Q (os++rest) a w
theorem Ap{F:XG}{ops:Array Oper}{Q:Exit->Act->World->Prop}{a:Act}{w:World}{rest:List Oper}{o:Oper}{K:Value->World->Prop}
  (hw:Region.wanted o (yielded ops a.tmps)=true) (h:VU F.P o a w K) (k:∀v w',K v w'->wpListIn F.fe 0 F.P ops Q rest (a.put o.dst v) w'):wpListIn F.fe 0 F.P ops Q (o::rest) a w:=by
 unfold wpListIn;rw[WV hw];exact h.wpIn k
theorem Tw{F:XG}{ops:Array Oper}{Q:Exit->Act->World->Prop}{a:Act}{w:World}{rest:List Oper}{o:Oper}
  (hw:Region.wanted o (yielded ops a.tmps)=false) (k:wpListIn F.fe 0 F.P ops Q rest (a.put o.dst undef) w):wpListIn F.fe 0 F.P ops Q (o::rest) a w:=by
 unfold wpListIn;rw[WM (by rw[hw];decide)];exact⟨fun _ _=>trivial,k⟩
section
variable {F:XG}{ops:Array Oper}{os:List Oper}{o:Oper}{σ σ' fq:AS}{s:Slot}{new:List (Nat×VS)}
theorem J.nil:J F ops [] σ σ:=fun _ _ _ _ h k=>k _ _ h
theorem J.cons(g:GK ops σ.g o true)(h:JO F o σ s new)(hf:σ.free new=true)(hd:gR o.dst F.N=true)(k:J F ops os (σ.put o.dst s new) σ'):J F ops (o::os) σ σ':=by
 intro Q A a w B C;obtain⟨⟨ρ,z,u⟩,G,H⟩:=B;refine Ap (zM g (fun t x _ D=>u t _ D)) (h ρ _ a w (cI z u _)) fun v I E=>?_;exact k Q A _ _ (St.put z u G H hf hd E) C
theorem Zw{ρ:Nat->LV}{S:Nat->Prop}{w:World}:XV ρ S w .top [] undef w:=
 ⟨ρ,fun _ _=>rfl,Below.refl _ _,by simp[Slot.ok],⟨fun _ _ h=>by simp[aW] at h,fun _ _ _ h=>by simp[aW] at h,fun _ _ _ _ _ h=>by simp[aW] at h⟩⟩
theorem J.left(g:GK ops σ.g o false)(hd:gR o.dst F.N=true)(k:J F ops os (σ.put o.dst .top []) σ'):J F ops (o::os) σ σ':=by
 intro Q u a w z A;obtain⟨⟨ρ,C,h⟩,D,E⟩:=z;refine Tw (zM g (fun t x _ B=>h t _ B)) ?_;exact k Q u _ _ (St.put C h D E rfl hd Zw) A
def JM(F:XG)(o:Oper)(σ σ':AS):Prop:=∀a w,St F σ a w->VU F.P o a w fun v h=>St F σ' (a.put o.dst v) h
theorem Zx(g:GK ops σ.g o true)(h:JM F o σ σ')(k:J F ops os σ' fq):J F ops (o::os) σ fq:=by
 intro Q A a w u B;have z:=u;obtain⟨⟨ρ,H,E⟩,I,K⟩:=u;refine Ap (zM g (fun t x _ C=>E t _ C)) (h a w z) fun v G D=>?_;exact k Q A _ _ D B
def Sub(F:XG)(σ σ':AS):Prop:=∀a w,St F σ a w->St F σ' a w
theorem J.sub(h:Sub F σ σ')(k:J F ops os σ' fq):J F ops os σ fq:=fun Q u a w z A=>k Q u a w (h a w z) A
end
def run(Fe:Fence)(P:Program)(Q:Exit->Act->World->Prop):List Code->Act->World->Prop
 | [],a,w=>Q .normal a w
 |c::cs,a,w=>c.wpIn Fe 0 P (Exit.then (run Fe P Q cs) Q) a w
def W(F:XG)(cs:List Code)(σ:AS)(Q:Exit->Act->World->Prop):Prop:=∀a w,St F σ a w->run F.fe F.P Q cs a w
section
variable {F:XG}{cs:List Code}{σ σ':AS}{Q:Exit->Act->World->Prop}
theorem aF{x y:Code}(h:W F (x::y::cs) σ Q):W F (.seq x y::cs) σ Q:=by
 intro a w u;refine wpIn_seq (wpIn_mono (h a w u) ?_);intro e a w z;cases e<;>exact z
theorem eF{id:Nat}{ops:List Oper}(h:J F ops.toArray ops σ σ')(k:W F cs σ' Q):W F (.region id ops.toArray false::cs) σ Q:=by
 intro a w u;refine wpIn_region_lit ?_;have:=h (Exit.then (run F.fe F.P Q cs) Q) [] a w u (fun z A B=>wpListIn_nil (k z A B));simpa using this
theorem Fw{c:Tmp}{x y:Code}{b:Bool}(hb:lk σ.g c=some (.v Wr.bool b))(ht:b=true->W F (x::cs) σ Q)(hf:b=false->W F (y::cs) σ Q):W F (.cond (.tmp c) x y::cs) σ Q:=by
 intro a w u;obtain⟨ρ,B,A⟩:=u.core;have:=A c _ hb;simp only[Slot.ok] at this;have z:=zL.1 this;exact wpIn_cond_split (c:= .tmp c) (by rw[Rl];exact z) (fun h=>ht h a w u) (fun h=>hf h a w u)
theorem aG(h:W F cs σ Q):W F (.skip::cs) σ Q:=fun a w u=>wpIn_skip (h a w u)
theorem wK(h:Sub F σ σ')(k:W F cs σ' Q):W F cs σ Q:=fun a w u=>k a w (h a w u)
def XQ(F:XG)(σ:AS)(Q:Exit->Act->World->Prop)(e:Exit):Prop:=∀a w,St F σ a w->Q e a w
theorem aH(h:XQ F σ Q .ret):W F (.ret::cs) σ Q:=fun a w u=>wpIn_ret (h a w u)
theorem dE{id:Nat}(h:XQ F σ Q (.exit id)):W F (.exit id::cs) σ Q:=fun a w u=>wpIn_exit (h a w u)
theorem Zy(h:XQ F σ Q .normal):W F [] σ Q:=h
theorem bQ{id:Nat}{c:Code}(h:W F [c] σ (Exit.inBlock id (Exit.then (run F.fe F.P Q cs) Q))):W F (.block id c::cs) σ Q:=by
 intro a w u;refine wpIn_block (wpIn_mono (h a w u) ?_);intro e a w z;cases e<;>exact z
theorem bV{id:Nat}(h:W F cs σ Q):W F [] σ (Exit.inBlock id (Exit.then (run F.fe F.P Q cs) Q)):=fun a w u=>h a w u
theorem LJ{id id':Nat}{N:Act->World->Prop}(YZ:Nat.beq id' id=false)(h:XQ F σ Q (.exit id')):XQ F σ (Exit.inBlock id (Exit.then N Q)) (.exit id'):=by
 intro a w z;have u:id'≠id:=fun e=>by subst e;simp at YZ
 simp only[Exit.inBlock,WM u];exact h a w z
theorem eI{id:Nat}{N:Act->World->Prop}(h:XQ F σ Q .ret):XQ F σ (Exit.inBlock id (Exit.then N Q)) .ret:=h
end
inductive Step (α β:Type) where
 |next (x:α)
 |done (b:β)
def loop{α β:Type}(step:α->Option (Step α β)):Nat->α->Option β
 | 0,_=>none
 |n+1,x=>match step x with
  |none=>none
  |some (.next y)=>loop step n y
  |some (.done b)=>some b
def LQ{α β:Type}(F:XG)(σs:α->AS)(b:β)(Q:Exit->Act->World->Prop):Step α β->Exit->Act->World->Prop
 | .next y,.normal,a,w=>St F (σs y) a w
 | .next _,_,_,_=>False
 | .done _,.normal,_,_=>False
 | .done h,e,a,w=>h=b->Q e a w
section
variable {F:XG}{cs:List Code}{σ:AS}{Q:Exit->Act->World->Prop}{α β:Type}
theorem PC{c:Code}{σs:α->AS}{step:α->Option (Step α β)}{n:Nat}{x:α}{b:β}(hm:loop step n x=some b)(h0:Sub F σ (σs x))
  (h:∀y r,step y=some r->W F [c] (σs y) (LQ F σs b Q r)):W F (.loop c::cs) σ Q:=by
 intro a w E;have E:=h0 a w E;let I:Act->World->Prop:=fun a w=>∃m y,Sw.loop step m y=some b/\St F (σs y) a w
 let B:Act->World->Nat->Prop:=fun a w m=>∃y,Sw.loop step m y=some b/\St F (σs y) a w
 have G:∀a w,I a w->∃m,B a w m/\∀k,B a w k->m<=k:=by
  rintro a w ⟨m,y,u,C⟩;have:∃m,B a w m:=⟨m,y,u,C⟩
  clear u C;obtain⟨m,hm⟩:=this
  induction m using Nat.strongRecOn with
  |_ m R=>
   by_cases H:∃k,k<m/\B a w k
   ·obtain⟨k,u,C⟩:=H;exact R k u C
   ·exact⟨m,hm,fun k N=>Nat.le_of_not_lt fun O=>H ⟨k,O,N⟩⟩
 classical
 let μ:Act->World->Nat:=fun a w=>if A:I a w then Classical.choose (G a w A) else 0
 have K:∀a w (A:I a w),B a w (μ a w)/\∀k,B a w k->μ a w<=k:=by
  intro a w A;have:=aD3 (G a w A);simp only[μ,dif_pos A];exact this
 refine wpIn_loop (Q:=Exit.then (run F.fe F.P Q cs) Q) I μ ⟨n,x,hm,E⟩ fun a w A=>?_;obtain⟨⟨y,u,C⟩,S⟩:=K a w A;cases hn:μ a w with
 |zero=>rw[hn] at u;simp[Sw.loop] at u
 |succ m=>
  rw[hn] at u;simp only[Sw.loop] at u;cases YF:step y with
  |none=>rw[YF] at u;cases u
  |some r=>
   have:=h y r YF a w C;refine wpIn_mono this ?_;intro e M w' D;cases r with
   |next z=>
    rw[YF] at u;cases e<;>simp only[LQ,Exit.then,run] at D ⊢;have L:I M w':=⟨m,z,u,D⟩
    refine⟨L,?_⟩;have:=(K M w' L).2 m ⟨z,u,D⟩;omega
   |done T=>
    rw[YF] at u;simp at u;cases e<;>simp only[LQ,Exit.then,run] at D ⊢<;>exact D u
end
end Go.Sw
namespace Go.Sw
open Go Go.RowKit
def Wr.sl{α:Type}(e:Wr α):Wr (List α) where
 n:=1
 agg:=false
 ok xs S w cs:=∃a u,cs=[.slice a xs.length u]/\(xs.length<=u/\xs.length<=140737488355328)/\(xs=[]\/∃b z A,a=some ⟨b,z,none⟩/\b<w.heap.size/\¬S b/\WC w b z A/\e.YY xs S w A)
 len h:=by obtain⟨a,u,h,_⟩:=h;rw[h];rfl
 one _:=rfl
 cell h c hc:=by obtain⟨a,u,h,_⟩:=h;rw[h] at hc;simp at hc;subst hc;rfl
 mono h k:=by
  obtain⟨a,u,h,E,B⟩:=h;refine⟨a,u,h,E,?_⟩;rcases B with B |⟨b,z,A,F,C,D,G,H⟩
  ·exact .inl B
  ·exact .inr ⟨b,z,A,F,R4 C k.size,(k.H4 b C D).2,G.mono C D k,Wr.VX H k⟩
def Wr.arr{α:Type}(m:Nat)(e:Wr α):Wr (List α) where
 n:=m*e.n
 agg:=true
 ok xs S w cs:=xs.length=m/\e.YY xs S w cs
 len h:=by rw[cP h.2,h.1]
 one h:=by cases h
 cell h:=rI h.2
 mono h k:=⟨h.1,Wr.VX h.2 k⟩
def Wr.pr{α β:Type}(a:Wr α)(b:Wr β):Wr (α×β) where
 n:=a.n+b.n
 agg:=true
 ok x S w cs:=∃c d,cs=c++d/\a.ok x.1 S w c/\b.ok x.2 S w d
 len h:=by obtain⟨c,d,h,u,z⟩:=h;rw[h,sM,a.len u,b.len z]
 one h:=by cases h
 cell h y hy:=by
  obtain⟨c,d,h,u,z⟩:=h;rw[h] at hy;rcases K5.1 hy with hy | hy
  ·exact a.cell u y hy
  ·exact b.cell z y hy
 mono h k:=by obtain⟨c,d,h,u,z⟩:=h;exact⟨c,d,h,a.mono u k,b.mono z k⟩
def Wr.J2{α:Type}(a:Wr α):Wr α where
 n:=a.n
 agg:=true
 ok:=a.ok
 len:=a.len
 one h:=by cases h
 cell:=a.cell
 mono:=a.mono
def Wr.err(T:TypeId):Wr (Option Int) where
 n:=1
 agg:=false
 ok x _ _ cs:=match x with | none=>cs=[.nilIface] | some n=>cs=[.iface T (.int .i64 n)]/\Ea .i64 n
 len {x _ _ _} h:=by cases x<;>simp only at h<;>first | (rw[h];rfl) | (rw[h.1];rfl)
 one _:=rfl
 cell {x _ _ _} h c hc:=by
  cases x<;>simp only at h<;>first | (rw[h] at hc;simp at hc;subst hc;rfl) | (rw[h.1] at hc;simp at hc;subst hc;rfl)
 mono h _:=h
theorem sE{α:Type}{e:Wr α}{xs:List α}{S w u}:(Wr.sl e).val xs S w u↔∃a cap,u= .slice a xs.length cap/\(xs.length<=cap/\xs.length<=140737488355328)/\(xs=[]\/∃b off ds,a=some ⟨b,off,none⟩/\b<w.heap.size/\¬S b/\WC w b off ds/\e.YY xs S w ds):=by
 constructor
 ·rintro⟨B,⟨a,cap,z,A⟩,rfl⟩;rw[z];exact⟨a,cap,rfl,A⟩
 ·rintro⟨a,cap,rfl,h⟩;exact⟨_,⟨a,cap,rfl,h⟩,rfl⟩
theorem Aq{T:TypeId}{S w u}:(Wr.err T).val none S w u↔u= .nilIface:=by
 constructor
 ·rintro⟨z,h,rfl⟩;simp only[Wr.err] at h;rw[h];rfl
 ·rintro rfl;exact⟨_,rfl,rfl⟩
theorem Ar{T:TypeId}{n:Int}{S w u}:(Wr.err T).val (some n) S w u↔u= .iface T (.int .i64 n)/\Ea .i64 n:=by
 constructor
 ·rintro⟨z,h,rfl⟩;simp only[Wr.err] at h;rw[h.1];exact⟨rfl,h.2⟩
 ·rintro⟨rfl,h⟩;exact⟨_,⟨rfl,h⟩,rfl⟩
class YM {α:Type} (e:Wr α):Prop where
 flat:∀{x S S' w w' cs},e.ok x S w cs->e.ok x S' w' cs
instance (k:IntKind):YM (Wr.int k):=⟨fun h=>h⟩
instance:YM Wr.bool:=⟨fun h=>h⟩
instance:YM Wr.str:=⟨fun h=>h⟩
instance (T:TypeId):YM (Wr.err T):=⟨fun h=>h⟩
theorem YM.YY{α:Type}{e:Wr α}[YM e]{S S' w w'}:∀{xs:List α} {cs},e.YY xs S w cs->e.YY xs S' w' cs
 | [],_,h=>h
 |_::_,_,⟨c,d,u,z,A⟩=>⟨c,d,u,YM.flat z,YM.YY A⟩
instance {α:Type} (m:Nat) (e:Wr α) [YM e]:YM (Wr.arr m e):=⟨fun h=>⟨h.1,YM.YY h.2⟩⟩
instance {α β:Type} (a:Wr α) (b:Wr β) [YM a] [YM b]:YM (Wr.pr a b):=⟨fun h=>let ⟨c,d,h,h1,h2⟩:=h;⟨c,d,h,YM.flat h1,YM.flat h2⟩⟩
instance {α:Type} (a:Wr α) [i:YM a]:YM (Wr.J2 a):=⟨fun h=>i.flat (e:=a) h⟩
def WE(P:Program)(f:FuncId)(args:List Slot)(res:Slot)(new:List (Nat×VS)):Prop:=
 ∀S w vs ρ,(∀k,S k->k<w.heap.size)->aV ρ S w args vs->Calls P f vs.toArray w fun e h=>∃v,e= .returned v/\XV ρ S w res new v h
def enum:Nat->List Slot->List (Nat×Slot)
 |_,[]=>[]
 |i,s::r=>(i,s)::enum (i+1) r
theorem Lv{ρ S w}:∀(l:List Slot) (vs:List Value) (i:Nat),aV ρ S w l vs->∀t s,lk (enum i l) t=some s->i<=t/\∃u,vs[t - i]? =some u/\s.ok ρ S w u
 | [],_,_,_,t,s,h=>by simp[enum,lk] at h
 |x::r,vs,i,z,t,s,h=>by
  simp only[aV] at z;obtain⟨u,A,rfl,B,C⟩:=z;simp only[enum,lk] at h;cases hb:Nat.beq i t with
  |true=>
   rw[hb] at h;simp at h;subst h;have:=w9 hb;subst this;exact⟨YQ _,u,by simp,B⟩
  |false=>
   rw[hb] at h;obtain⟨G,D,E,F⟩:=Lv r A (i+1) C t s h;refine⟨by omega,D,?_,F⟩;have:t - i=(t - (i+1))+1:=by omega
   rw[this];simpa using E
theorem Gx{ρ S w}:∀{l:List Slot} {vs:List Value},aV ρ S w l vs->vs.length=l.length
 | [],vs,h=>by simp only[aV] at h;simp[h]
 |x::r,vs,h=>by simp only[aV] at h;obtain⟨u,A,rfl,_,z⟩:=h;simp[Gx z]
theorem qS{P:Program}{fn:Func}{tmps:Array Value}{R R':Ending->World->Prop}(hR:∀e w,R e w->R' e w):∀{ds:List Deferred} {u:FrameMode} {w:World},LeavesInM Fence.wide 0 P fn tmps R ds u w->LeavesInM Fence.wide 0 P fn tmps R' ds u w
 | [],.returning,w,h=>by obtain⟨v,z,A⟩:=h;exact⟨v,z,hR _ _ A⟩
 | [],.panicking chain,w,h=>hR _ _ h
 | [],.run,w,h=>h
 |d::ds,u,w,h=>by
  obtain⟨E,h⟩:=h;refine⟨E,?_⟩;rcases h with⟨r,D,z,A,C⟩|⟨z,F,G,f,H,A,C,I,K⟩
  ·exact .inl ⟨r,D,z,A,qS hR C⟩
  ·refine .inr ⟨z,F,G,f,H,A,C,I,?_⟩;refine CallsDIn.mono K ?_;intro e L D B;cases e
   ·exact qS hR B
   ·exact qS hR B
   ·exact hR _ _ B
theorem Lw{P:Program}{fn:Func}{R R':Ending->World->Prop}(hR:∀e w,R e w->R' e w){e:Exit}{a:Act}{w:World}(h:bodyPostM Fence.wide 0 P fn R e a w):bodyPostM Fence.wide 0 P fn R' e a w:=by
 cases e
 case goto | exit=>exact h.elim
 case normal | ret=>exact qS hR h
 case panic=>exact qS hR h
 case outgrown=>exact hR _ _ h
def Ox(F:XG)(fn:Func)(res:Slot)(new:List (Nat×VS)):Exit->Act->World->Prop:=
 bodyPostM Fence.wide 0 F.P fn fun e h=>∃v,e= .returned v/\∀ρ,XV ρ F.S0 F.w0 res new v h
def uy(P:Program)(fn:Func)(tmps:Array Value)(R:Value->World->Prop):List Deferred->World->Prop
 | [],w=>∃v,(results fn tmps).run P w= .ok v w/\R v w
 |d::ds,w=>∃r w',d.target= .collected r/\(Instr.takeDeferred r).run P w= .ok [] w'/\uy P fn tmps R ds w'
theorem uy.leaves{P:Program}{fn:Func}{tmps:Array Value}{R:Value->World->Prop}{R':Ending->World->Prop}(hR:∀v w,R v w->R' (.returned v) w):∀{ds:List Deferred} {w:World},uy P fn tmps R ds w->LeavesInM Fence.wide 0 P fn tmps R' ds .returning w
 | [],w,h=>by obtain⟨v,u,z⟩:=h;exact⟨v,u,hR _ _ z⟩
 |d::ds,w,h=>by
  obtain⟨r,A,u,z,B⟩:=h;exact⟨by simp,.inl ⟨r,A,u,z,B.leaves hR⟩⟩
structure V9 (F F':XG):Prop where
 P:F'.P=F.P
 S:∀k,F.S0 k->F'.S0 k
 size:F.w0.heap.size<=F'.w0.heap.size
 low:∀k,F.S0 k->k<F.w0.heap.size
 frame:∀k,k<F.w0.heap.size->¬F.R k->F'.w0.heap[k]? =F.w0.heap[k]?/\¬F'.R k
 os:F'.w0.os=F.w0.os
 tape:F'.w0.tape=F.w0.tape
 output:F'.w0.output=F.w0.output
 fresh:∀k,F'.R k->F.w0.heap.size<=k\/F.R k
 df:∀d∈F'.df,∃r,d.target= .collected r/\F'.S0 r/\¬F'.R r/\F.w0.heap.size<=r/\F'.w0.heap[r]? =some (.deferred (some []))
 nd:F'.df.Pairwise fun d d'=>d.target≠d'.target
theorem V9.refl{F:XG}(hl:∀k,F.S0 k->k<F.w0.heap.size)(hd:F.df=[]):V9 F F:=
 ⟨rfl,fun _ h=>h,YQ _,hl,fun _ _ h=>⟨rfl,h⟩,rfl,rfl,rfl,fun _ h=> .inr h,by rw[hd];simp,by rw[hd];exact .nil⟩
theorem WE.of{P:Program}{f:FuncId}{fn:Func}{c:Code}{N:Nat}{args:List Slot}{res:Slot}{new:List (Nat×VS)}
  (hf:P.funcs[f]? =some fn) (hb:fn.body=some c) (hN:fn.ntmps=N) (hle:Nat.ble args.length N=true)
  (h:∀S w,V9 ⟨P,N,S,w,fun _=>False,none,[]⟩ ⟨P,N,S,w,fun _=>False,none,[]⟩->W ⟨P,N,S,w,fun _=>False,none,[]⟩ [c] ⟨enum 0 args,[]⟩ (Ox ⟨P,N,S,w,fun _=>False,none,[]⟩ fn res new)):WE P f args res new:=by
 intro S w vs ρ j6 hv;refine(callsIn_wide (n:=0)).1 (callsIn_of_wp_marks hf hb trivial ?_);have K:=Gx hv;have hle:=A6 hle;have E:St ⟨P,N,S,w,fun _=>False,none,[]⟩ ⟨enum 0 args,[]⟩ { tmps:=vs.toArray++Array.replicate (fn.ntmps - vs.toArray.size) undef,defers:=[] } w:= ?_
 ·have z:c.wpIn Fence.wide 0 P (Exit.then (run Fence.wide P (Ox ⟨P,N,S,w,fun _=>False,none,[]⟩ fn res new) []) (Ox ⟨P,N,S,w,fun _=>False,none,[]⟩ fn res new)) { tmps:=vs.toArray++Array.replicate (fn.ntmps - vs.toArray.size) undef,defers:=[] } w:=h S w (.refl j6 rfl) _ w E;refine wpIn_mono z ?_;have F:∀e a w',Ox ⟨P,N,S,w,fun _=>False,none,[]⟩ fn res new e a w'->bodyPostM Fence.wide 0 P fn (fun e w'=>∃v,e= .returned v/\XV ρ S w res new v w') e a w':=fun e a w' C=>Lw (fun e w ⟨v,z,D⟩=>⟨v,z,D ρ⟩) C;intro e a w' C;cases e<;>exact F _ _ _ C
 ·refine⟨⟨ρ,⟨j6,YQ _,fun _ _ _=>rfl,rfl,rfl,rfl,fun i B h=>by simp[aW] at h,fun i B b h=>by simp[aW] at h,fun i j B L b h=>by simp[aW] at h,fun i B b h=>by simp[aW] at h⟩,fun t s H=>?_⟩,?_,rfl⟩
  ·obtain⟨_,u,z,D⟩:=Lv args vs 0 hv t s H;have G:t<vs.length:=by
    rcases M3 t vs.length with h | h
    ·exact h
    ·simp[Z7 h] at z
   have:(vs.toArray++Array.replicate (fn.ntmps - vs.toArray.size) undef).getD t undef=u:=by
    rw[ph,aDm (by simpa using G)];simp at z ⊢;rw[z];rfl
   rw[this];exact Slot.VP s u D ⟨YQ _,fun k _ I=>⟨rfl,fun A=>I (by rcases A with A |⟨i,B,A,_⟩;exact A;simp[aW] at A)⟩⟩ (fun _ _=>rfl)
  ·simp only[aEm,aD8,aEn];omega
def wL(a:Act):ResultVar->Sem Value
 | .tmp t=>pure (a.tmps.getD t undef)
 | .cell c t=>do loadVar t (<-asAddr (a.tmps.getD c undef))
def RV(F:XG)(σ:AS)(rv:ResultVar)(s:Slot):Prop:=
 ∀(ρ:Nat->LV) (a:Act) (w:World),Core F σ.d ρ w->(∀t s,lk σ.g t=some s->s.ok ρ (Un F.S0 ρ σ.d) w (a.tmps.getD t undef))->
  ∃v,(wL a rv).run F.P w= .ok v w/\s.ok ρ (Un F.S0 ρ σ.d) w v
theorem RV.tmp{F:XG}{σ:AS}{t:Tmp}{s:Slot}(h:lk σ.g t=some s):RV F σ (.tmp t) s:=fun _ a _ _ u=>⟨a.tmps.getD t undef,rfl,u t s h⟩
inductive B6:List (Nat×VS)->List (Nat×VS)->Prop
 |nil {d}:B6 [] d
 |cons {d i en r}:aW d i=some en->B6 r d->B6 ((i,en)::r) d
theorem B6.spec{n d:List (Nat×VS)}(h:B6 n d):∀i en,aW n i=some en->aW d i=some en:=by
 induction h with
 |nil=>intro i en h;simp[aW] at h
 |cons u _ z=>
  rename_i j A r _;intro i en h;simp only[aW] at h;cases hb:Nat.beq j i with
  |true=>have:=w9 hb;subst this;rw[hb] at h;simp at h;subst h;exact u
  |false=>rw[hb] at h;exact z i en h
def lE(res:Slot)(new:List (Nat×VS)):Bool:=res.YJ.all (fun i=>(aW new i).isSome) && new.all fun x=>x.2.YJ.all fun i=>(aW new i).isSome
theorem XV.r5{F:XG}{σ:AS}{ρ:Nat->LV}{w:World}{v:Value}{res:Slot}{new:List (Nat×VS)}(hR:∀k,¬F.R k)(hc:Core F σ.d ρ w)(hr:res.ok ρ (Un F.S0 ρ σ.d) w v)
  (hn:B6 new σ.d) (YO:lE res new=true) (ρ0:Nat->LV):XV ρ0 F.S0 F.w0 res new v w:=by
 have A:=hn.spec;simp only[lE,E7,o7] at YO;let ρ':Nat->LV:=fun i=>if (aW new i).isSome then ρ i else ρ0 i
 have z:∀i,(aW new i).isSome=true->ρ' i=ρ i:=fun i h=>WV h
 have H:Ext (Un F.S0 ρ σ.d) (Un F.S0 ρ' new) w w:=⟨YQ _,fun k _ E=>⟨rfl,fun h=>E (by
  rcases h with h |⟨i,u,D,G⟩
  ·exact .inl h
  ·exact .inr ⟨i,u,A i u D,by rw[<-z i (by rw[D];rfl)];exact G⟩)⟩⟩
 refine⟨ρ',fun i h=>by simp[ρ',h],⟨hc.os,hc.tape,hc.output,hc.size,fun k E=>hc.frame k E (hR k)⟩,Slot.VP res v hr H (fun i B=>congrArg LV.v (z i (YO.1 i B))),⟨fun i u h=>?_,fun i u b h I=>?_,fun i j u K b B C L M=>?_⟩⟩
 ·rw[z i (by rw[h];rfl)];exact VS.VP (hc.own i u (A i u h)) H (fun j C=>congrArg LV.v (z j (YO.2 _ (mQ h) j C))) (fun _ _=>rfl)
 ·rw[z i (by rw[h];rfl)] at I;obtain⟨D,G⟩:=hc.fresh i u b (A i u h) I;exact⟨D.resolve_right (hR b),G⟩
 ·rw[z i (by rw[B];rfl)] at L;rw[z j (by rw[C];rfl)] at M;exact hc.inj i j u K b (A i u B) (A j K C) L M
theorem xF(fn:Func)(a:Act):results fn a.tmps=(do
  let vs<-fn.results.mapM (wL a)
  pure (if h:vs.size=1 then vs[0] else .tuple vs)):=rfl
theorem Zz{P:Program}{S0:Nat->Prop}{B:Nat}:∀(ds:List Deferred) (w:World),(∀d∈ds,∃r,d.target= .collected r/\S0 r/\B<=r/\w.heap[r]? =some (.deferred (some [])))->ds.Pairwise (fun d d'=>d.target≠d'.target)->
  ∃w',w'.heap.size=w.heap.size/\(∀k,¬(S0 k/\B<=k)->w'.heap[k]? =w.heap[k]?)/\w'.os=w.os/\w'.tape=w.tape/\w'.output=w.output/\
   ∀fn tmps R,(∃v,(results fn tmps).run P w'= .ok v w'/\R v w')->uy P fn tmps R ds w
 | [],w,_,_=>⟨w,rfl,fun _ _=>rfl,rfl,rfl,rfl,fun _ _ _ h=>h⟩
 |d::ds,w,h,z=>by
  obtain⟨r,D,H,I,K⟩:=h d Z8;rw[List.pairwise_cons] at z;have F:∀e∈ds,∃u,e.target= .collected u/\S0 u/\B<=u/\(w.putObj r (.deferred none)).heap[u]? =some (.deferred (some [])):=by
   intro e A;obtain⟨u,E,L,M,N⟩:=h e (Z6 _ A);refine⟨u,E,L,M,?_⟩;rw[World.putObj_heap_other];exact N;rintro rfl;exact z.1 e A (D.trans E.symm)
  obtain⟨w',O,Q,S,T,U,V⟩:=Zz ds (w.putObj r (.deferred none)) F z.2;refine⟨w',by rw[O,World.putObj_size],fun k C=>?_,S,T,U,fun fn tmps R G=>⟨r,_,D,run_takeDeferred K,V fn tmps R G⟩⟩;rw[Q k C,World.putObj_heap_other];rintro rfl;exact C ⟨H,I⟩
theorem Core.leave{F F':XG}{d:List (Nat×VS)}{ρ:Nat->LV}{w:World}(hF:V9 F F')(hc:Core F' d ρ w):∃w',Core F d ρ w'/\Ext (Un F'.S0 ρ d) (Un F.S0 ρ d) w w'/\
  ∀fn tmps R,(∃v,(results fn tmps).run F.P w'= .ok v w'/\R v w')->uy F.P fn tmps R F'.df w:=by
 have K:∀x∈F'.df,∃r,x.target= .collected r/\F'.S0 r/\F.w0.heap.size<=r/\w.heap[r]? =some (.deferred (some [])):=by
  intro x D;obtain⟨r,z,C,Q,T,I⟩:=hF.df x D;exact⟨r,z,C,T,by rw[hc.frame r (zo.1 I).1 Q];exact I⟩
 obtain⟨w',E,G,U,V,X,a6⟩:=Zz (P:=F.P) F'.df w K hF.nd;have L:∀k,Un F.S0 ρ d k->Un F'.S0 ρ d k:=fun k h=>h.imp (hF.S k) (fun h=>h);have H:Ext (Un F'.S0 ρ d) (Un F.S0 ρ d) w w':=⟨by rw[E];exact YQ _,fun k _ B=>⟨G k fun h=>B (.inl h.1),fun h=>B (L k h)⟩⟩
 have M:∀i u b,aW d i=some u->qQ (ρ i) b->w'.heap[b]? =w.heap[b]? :=fun i u b h A=>G b fun D=>hc.apart i u b h A D.1
 refine⟨w',⟨hF.low,by rw[E];exact eh hF.size hc.size,fun k B N=>?_,U.trans (hc.os.trans hF.os),V.trans (hc.tape.trans hF.tape),X.trans (hc.output.trans hF.output),fun i u h=>VS.VP (hc.own i u h) H (fun _ _=>rfl) (fun b A=>M i u b h A),
  fun i u b h A=>?_,hc.inj,fun i u b h A O=>hc.apart i u b h A (hF.S b O)⟩,H,a6⟩
 ·obtain⟨z,C⟩:=hF.frame k B N;rw[G k (fun h=>by omega),hc.frame k (R4 B hF.size) C,z]
 ·obtain⟨z,C⟩:=hc.fresh i u b h A;refine⟨?_,by rw[E];exact C⟩;rcases z with z | z
  ·exact .inl (eh hF.size z)
  ·exact hF.fresh b z
theorem yK{F F':XG}{σ:AS}{fn:Func}{R:Ending->World->Prop}(hF:V9 F F')
  (h:∀(ρ:Nat->LV) (a:Act) (w:World),Core F σ.d ρ w->(∀t s,lk σ.g t=some s->s.ok ρ (Un F.S0 ρ σ.d) w (a.tmps.getD t undef))->∃v,(results fn a.tmps).run F.P w= .ok v w/\R (.returned v) w):
  XQ F' σ (bodyPostM Fence.wide 0 F.P fn R) .ret:=by
 intro a w z;obtain⟨⟨ρ,B,C⟩,K,D⟩:=z;obtain⟨E,G,H,I⟩:=B.leave hF;have u:=h ρ a E G fun t s A=>Slot.VP s _ (C t s A) H (fun _ _=>rfl);show LeavesInM Fence.wide 0 F.P fn a.tmps R a.defers .returning w;rw[D];exact(I fn a.tmps (fun v w=>R (.returned v) w) u).leaves fun _ _ h=>h
theorem Tx{P:Program}{fn:Func}{a:Act}{w:World}{rv:ResultVar}{v:Value}(B0:fn.results= #[rv])(h1:(wL a rv).run P w= .ok v w):(results fn a.tmps).run P w= .ok v w:=by
 rw[xF,B0];simp only[aDy,zf,aEt,Sem.run_bind,Sem.run_map,h1,Result.andThen_ok,Sem.run_pure];simp
theorem Ty{P:Program}{fn:Func}{a:Act}{w:World}{rv je:ResultVar}{v v':Value}(B0:fn.results= #[rv,je])(h1:(wL a rv).run P w= .ok v w)(A4:(wL a je).run P w= .ok v' w):(results fn a.tmps).run P w= .ok (.tuple #[v,v']) w:=by
 rw[xF,B0];simp only[aDy,zf,aEt,Sem.run_bind,Sem.run_map,h1,A4,Result.andThen_ok,Sem.run_pure];simp
theorem Tz{P:Program}{fn:Func}{a:Act}{w:World}{rv je rv2:ResultVar}{v v' v2:Value}(B0:fn.results= #[rv,je,rv2])(h1:(wL a rv).run P w= .ok v w)(A4:(wL a je).run P w= .ok v' w)(ko:(wL a rv2).run P w= .ok v2 w):(results fn a.tmps).run P w= .ok (.tuple #[v,v',v2]) w:=by
 rw[xF,B0];simp only[aDy,zf,aEt,Sem.run_bind,Sem.run_map,h1,A4,ko,Result.andThen_ok,Sem.run_pure];simp
theorem RQ{ρ:Nat->LV}{S:Nat->Prop}{w:World}{s s':Slot}{v v':Value}(h2:s.ok ρ S w v)(w7:s'.ok ρ S w v'):(Slot.WL [s,s']).ok ρ S w (.tuple #[v,v']):=by
 simp only[Slot.ok];exact⟨[v,v'],rfl,by simp only[aV];exact⟨v,_,rfl,h2,v',_,rfl,w7,rfl⟩⟩
theorem RR{ρ:Nat->LV}{S:Nat->Prop}{w:World}{s s' s2:Slot}{v v' v2:Value}(h2:s.ok ρ S w v)(w7:s'.ok ρ S w v')(h22:s2.ok ρ S w v2):(Slot.WL [s,s',s2]).ok ρ S w (.tuple #[v,v',v2]):=by
 simp only[Slot.ok];exact⟨[v,v',v2],rfl,by simp only[aV];exact⟨v,_,rfl,h2,v',_,rfl,w7,v2,_,rfl,h22,rfl⟩⟩
section
variable {F F':XG}{σ:AS}{fn:Func}{rv je rv2:ResultVar}{res s s' s2:Slot}{new:List (Nat×VS)}
theorem aY(hF:V9 F F')(hR:∀k,¬F.R k)(B0:fn.results= #[rv])(h:RV F σ rv res)(hn:B6 new σ.d)(YO:lE res new=true):XQ F' σ (Ox F fn res new) .ret:=
 yK hF fun ρ a w u z=>by
  obtain⟨v,A,B⟩:=h ρ a w u z;exact⟨v,Tx B0 A,v,rfl,XV.r5 hR u B hn YO⟩
theorem bR(hF:V9 F F')(hR:∀k,¬F.R k)(B0:fn.results= #[rv,je])(h:RV F σ rv s)(h':RV F σ je s')(hn:B6 new σ.d)(YO:lE (.WL [s,s']) new=true):XQ F' σ (Ox F fn (.WL [s,s']) new) .ret:=
 yK hF fun ρ a w u z=>by
  obtain⟨v,A,B⟩:=h ρ a w u z;obtain⟨E,C,D⟩:=h' ρ a w u z;exact⟨_,Ty B0 A C,_,rfl,XV.r5 hR u (RQ B D) hn YO⟩
theorem wQ(hF:V9 F F')(hR:∀k,¬F.R k)(B0:fn.results= #[rv,je,rv2])(h:RV F σ rv s)(h':RV F σ je s')(h'':RV F σ rv2 s2)(hn:B6 new σ.d)(YO:lE (.WL [s,s',s2]) new=true):XQ F' σ (Ox F fn (.WL [s,s',s2]) new) .ret:=
 yK hF fun ρ a w u z=>by
  obtain⟨v,A,B⟩:=h ρ a w u z;obtain⟨H,C,D⟩:=h' ρ a w u z;obtain⟨I,E,G⟩:=h'' ρ a w u z;exact⟨_,Tz B0 A C E,_,rfl,XV.r5 hR u (RR B D G) hn YO⟩
end
end Go.Sw
namespace Go.Sw
open Go Go.RowKit
theorem XV.same{ρ:Nat->LV}{S:Nat->Prop}{w:World}{s:Slot}{v:Value}(h:s.ok ρ S w v):XV ρ S w s [] v w:=
 ⟨ρ,fun _ _=>rfl,Below.refl _ _,Slot.VP s v h ⟨YQ _,fun k _ u=>⟨rfl,fun h=>u (by
  rcases h with h |⟨i,A,z,_⟩
  ·exact h
  ·simp[aW] at z)⟩⟩ (fun _ _=>rfl),⟨fun _ _ h=>by simp[aW] at h,fun _ _ _ h=>by simp[aW] at h,fun _ _ _ _ _ h=>by simp[aW] at h⟩⟩
theorem yL(k:IntKind)(n:Int):Ea k (k.wrap n):=by
 unfold Ea;cases k<;>simp only[IntKind.min,IntKind.max,IntKind.wrap,IntKind.signed,IntKind.bits]<;>simp<;>(try split)<;>omega
section
variable {F:XG}{σ:AS}{s:Slot}{d:Option Tmp}{ty:TypeId}{p:String}{af:Array Edge}{gd:Option (Nat×Bool)}{x y c:Operand}
theorem aD(hx:dB σ.g x=some s):JO F ⟨d,.move x,ty,p,af,gd⟩ σ s []:=
 fun _ _ _ w K=>VU.value (w':=w) (by simp[execOp]) (XV.same (K.slot x (by simp[Op.operands]) s hx))
theorem bM(hx:dB σ.g x=some s):JO F ⟨d,.assign x,ty,p,af,gd⟩ σ s []:=
 fun _ _ _ w K=>VU.value (w':=w) (by simp[execOp]) (XV.same (K.slot x (by simp[Op.operands]) s hx))
theorem Ua{α:Type}(e:Wr α)(ρ:Nat->LV)(S:Nat->Prop)(w:World):(Slot.v (Wr.sl e) []).ok ρ S w (.slice none 0 0):=by
 simp only[Slot.ok];exact sE.2 ⟨none,0,rfl,by simp,.inl rfl⟩
theorem mR{α:Type}(e:Wr α):JO F ⟨d,.assign (.const (.slice none 0 0)),ty,p,af,gd⟩ σ (.v (Wr.sl e) []) []:=
 fun ρ S _ w _=>VU.value (w':=w) (by simp[execOp,Act.eval]) (XV.same (Ua e ρ S w))
theorem Pr(T:TypeId)(ρ:Nat->LV)(S:Nat->Prop)(w:World):(Slot.v (Wr.err T) none).ok ρ S w .nilIface:=by
 simp only[Slot.ok];exact Aq.2 rfl
theorem zC(T:TypeId):JO F ⟨d,.assign (.const .nilIface),ty,p,af,gd⟩ σ (.v (Wr.err T) none) []:=
 fun ρ S _ w _=>VU.value (w':=w) (by simp[execOp,Act.eval]) (XV.same (Pr T ρ S w))
theorem Lx{α:Type}{w:World}{S:Nat->Prop}(T:TypeId)(e:Wr α)(i:Nat)(ρ:Nat->LV):XV ρ S w (.ref i) [(i,.arr T e [])] (.slice none 0 0) w:=by
 refine⟨fun j=>if j=i then .of (.slice none 0 0) else ρ j,fun j A=>?_,Below.refl _ _,by simp only[Slot.ok,l3];exact⟨.inl ⟨_,_,_,rfl⟩,rfl⟩,⟨fun j z h=>?_,fun j z b h u=>?_,fun j k z B b h C u _=>?_⟩⟩
 ·have:j≠i:=fun e=>by subst e;simp[aW] at A
  simp[this]
 ·simp only[aW] at h;cases u:Nat.beq i j with
  |true=>have:=w9 u;subst this;rw[u] at h;simp at h;subst h;exact .inl ⟨rfl,by simp[LV.of]⟩
  |false=>rw[u] at h;simp at h
 ·simp only[aW] at h;cases hc:Nat.beq i j with
  |true=>have:=w9 hc;subst this;simp[pH,YV] at u
  |false=>rw[hc] at h;simp at h
 ·simp only[aW] at h;cases hc:Nat.beq i j with
  |true=>have:=w9 hc;subst this;simp[pH,YV] at u
  |false=>rw[hc] at h;simp at h
theorem aR{α:Type}(i:Nat)(T:TypeId)(e:Wr α):JO F ⟨d,.assign (.const (.slice none 0 0)),ty,p,af,gd⟩ σ (.ref i) [(i,.arr T e [])]:=
 fun ρ _ _ w _=>VU.value (w':=w) (by simp[execOp,Act.eval]) (Lx T e i ρ)
theorem Xo{σ:AS}{xs:Array Operand}{ρ S a w}(K:p3 σ xs ρ S a w){x:Operand}(hm:x∈xs){b:Bool}(hx:dB σ.g x=some (.v Wr.bool b)):a.eval x= .bool b:=by
 have:=K.slot x hm _ hx;simp only[Slot.ok] at this;exact zL.1 this
theorem fW{σ:AS}{xs:Array Operand}{ρ S a w}(K:p3 σ xs ρ S a w){x:Operand}(hm:x∈xs){k:IntKind}{n:Int}(hx:dB σ.g x=some (.v (Wr.int k) n)):a.eval x= .int k n/\Ea k n:=by
 have:=K.slot x hm _ hx;simp only[Slot.ok] at this;exact Eb.1 this
theorem nL(b:Bool)(ρ:Nat->LV)(S:Nat->Prop)(w:World):(Slot.v Wr.bool b).ok ρ S w (.bool b):=by simp only[Slot.ok];exact zL.2 rfl
theorem tF{k:IntKind}{n:Int}(h:Ea k n)(ρ:Nat->LV)(S:Nat->Prop)(w:World):(Slot.v (Wr.int k) n).ok ρ S w (.int k n):=by simp only[Slot.ok];exact Eb.2 ⟨rfl,h⟩
theorem FY(hc:dB σ.g c=some (.v Wr.bool true))(hx:dB σ.g x=some s):JO F ⟨d,.pick c x y,ty,p,af,gd⟩ σ s []:=
 fun _ _ _ w K=>VU.value (w':=w) (by simp[execOp,Xo K (x:=c) (by simp[Op.operands]) hc,asBool]) (XV.same (K.slot x (by simp[Op.operands]) s hx))
theorem FZ(hc:dB σ.g c=some (.v Wr.bool false))(hy:dB σ.g y=some s):JO F ⟨d,.pick c x y,ty,p,af,gd⟩ σ s []:=
 fun _ _ _ w K=>VU.value (w':=w) (by simp[execOp,Xo K (x:=c) (by simp[Op.operands]) hc,asBool]) (XV.same (K.slot y (by simp[Op.operands]) s hy))
theorem At{o:BinOp}{T T':TypeId}{v:Value}{k k':IntKind}{m n:Int}{ρ:Nat->LV}{S:Nat->Prop}
  {a:Act} {w:World} {s:Slot} (h1:a.eval x= .int k m) (h2:a.eval y= .int k' n) (h:(Go.binOp o T (.int k m) (.int k' n)).run F.P w= .ok v w) (hs:s.ok ρ S w v):
  VU F.P ⟨d,.binOp o T x y T',ty,p,af,gd⟩ a w (XV ρ S w s []):=by
 refine VU.value (w':=w) (v:=v) ?_ (XV.same hs);simp only[execOp,h1,h2];have:(eqGuard o T x y (.int k m) (.int k' n)).run F.P w= .ok () w:=by
  unfold eqGuard;by_cases u:(!(match o with | .eql | .neq=>true | _=>false))=true
  ·cases o<;>simp at u<;>simp
  ·cases o<;>simp at u<;>simp
 simp[this,h]
def ar(o:BinOp)(k:IntKind)(m n:Int):Int:=
 match o with
 | .add=>k.wrap (m+n)
 | .sub=>k.wrap (m - n)
 | .mul=>k.wrap (m*n)
 | .quo=>k.wrap (m.tdiv n)
 | .rem=>m.tmod n
 | .and=>k.wrap (BitVec.ofInt k.bits m &&& BitVec.ofInt k.bits n).toNat
 | .or=>k.wrap (BitVec.ofInt k.bits m ||| BitVec.ofInt k.bits n).toNat
 | .xor=>k.wrap (BitVec.ofInt k.bits m ^^^ BitVec.ofInt k.bits n).toNat
 | .andNot=>k.wrap (BitVec.ofInt k.bits m &&& ~~~ BitVec.ofInt k.bits n).toNat
 |_=>0
def cm(o:BinOp)(m n:Int):Bool:=
 match o with
 | .eql=>m==n
 | .neq=>m != n
 | .lss=>decide (m<n)
 | .leq=>decide (m<=n)
 | .gtr=>decide (m>n)
 | .geq=>decide (m>=n)
 |_=>false
def PD:BinOp->Bool
 | .add | .sub | .mul | .and | .or | .xor | .andNot=>true
 |_=>false
def RS:BinOp->Bool
 | .eql | .neq | .lss | .leq | .gtr | .geq=>true
 |_=>false
theorem dF{o:BinOp}{T T':TypeId}{k:IntKind}{m n:Int}(ho:PD o=true)(hx:dB σ.g x=some (.v (Wr.int k) m))(hy:dB σ.g y=some (.v (Wr.int k) n)):
  JO F ⟨d,.binOp o T x y T',ty,p,af,gd⟩ σ (.v (Wr.int k) (ar o k m n)) []:=by
 intro ρ S a w K;refine At (fW K (by simp[Op.operands]) hx).1 (fW K (by simp[Op.operands]) hy).1 (v:= .int k (ar o k m n)) ?_ (tF ?_ ρ S w)
 ·cases o<;>simp[PD] at ho<;>simp[binOp,Op.intArith,Op.intBits,ar]
 ·cases o<;>simp[PD] at ho<;>exact yL _ _
theorem LK{k:IntKind}{m n:Int}(h:Ea k m):Ea k (m.tmod n):=by
 unfold Ea at*;have u:(m.tmod n).natAbs<=m.natAbs:=by rw[Int.natAbs_tmod];exact Nat.mod_le _ _
 have z:0<=m->0<=m.tmod n:=fun h=>Int.tmod_nonneg _ h;have A:m<=0->m.tmod n<=0:=fun h=>by
  have:=Int.tmod_nonneg n (a:= -m) (by omega);rw[Int.neg_tmod] at this;omega
 have B:k.min<=0:=by cases k<;>decide
 have C:0<=k.max:=by cases k<;>decide
 omega
theorem GA{o:BinOp}{T T':TypeId}{k:IntKind}{m n:Int}(ho:o= .quo\/o= .rem)(hn:n≠0)(hx:dB σ.g x=some (.v (Wr.int k) m))(hy:dB σ.g y=some (.v (Wr.int k) n)):
  JO F ⟨d,.binOp o T x y T',ty,p,af,gd⟩ σ (.v (Wr.int k) (ar o k m n)) []:=by
 intro ρ S a w K;refine At (fW K (by simp[Op.operands]) hx).1 (fW K (by simp[Op.operands]) hy).1 (v:= .int k (ar o k m n)) ?_ (tF ?_ ρ S w)
 ·rcases ho with rfl | rfl<;>simp[binOp,Op.intDiv,hn,ar]
 ·rcases ho with rfl | rfl
  ·exact yL _ _
  ·exact LK (fW K (by simp[Op.operands]) hx).2
theorem jR{o:BinOp}{T T':TypeId}{k:IntKind}{m n:Int}(ho:RS o=true)(hx:dB σ.g x=some (.v (Wr.int k) m))(hy:dB σ.g y=some (.v (Wr.int k) n)):
  JO F ⟨d,.binOp o T x y T',ty,p,af,gd⟩ σ (.v Wr.bool (cm o m n)) []:=by
 intro ρ S a w K;refine At (fW K (by simp[Op.operands]) hx).1 (fW K (by simp[Op.operands]) hy).1 (v:= .bool (cm o m n)) ?_ (nL _ ρ S w);cases o<;>simp[RS] at ho<;>simp[binOp,Op.intCmp,cm]
def sh(o:BinOp)(k:IntKind)(m n:Int):Int:=
 match o with
 | .shl=>k.wrap (m*2 ^ min n.toNat k.bits)
 | .shr=>m.fdiv (2 ^ min n.toNat k.bits)
 |_=>0
theorem PE{k:IntKind}{m:Int}(h:Ea k m)(j:Nat):Ea k (m.fdiv (2 ^ j)):=by
 unfold Ea at*;have u:(0:Int)<2 ^ j:=aEz (by decide);have z:k.min<=0:=by cases k<;>decide
 have A:0<=k.max:=by cases k<;>decide
 rw[vt _ (aEd u)];constructor
 ·refine(Int.le_ediv_iff_mul_le u).2 ?_;have:k.min*2 ^ j<=k.min*1:=Int.mul_le_mul_of_nonpos_left z (by omega);omega
 ·refine Int.le_trans (Int.ediv_le_ediv u h.2) ?_;exact Int.ediv_le_self _ A
theorem fD{o:BinOp}{T T':TypeId}{k k':IntKind}{m n:Int}(ho:o= .shl\/o= .shr)(hn:0<=n)(hx:dB σ.g x=some (.v (Wr.int k) m))(hy:dB σ.g y=some (.v (Wr.int k') n)):
  JO F ⟨d,.binOp o T x y T',ty,p,af,gd⟩ σ (.v (Wr.int k) (sh o k m n)) []:=by
 intro ρ S a w K;refine At (fW K (by simp[Op.operands]) hx).1 (fW K (by simp[Op.operands]) hy).1 (v:= .int k (sh o k m n)) ?_ (tF ?_ ρ S w)
 ·have:¬n<0:=by omega
  rcases ho with rfl | rfl<;>simp[binOp,Op.shift,this,sh]
 ·rcases ho with rfl | rfl
  ·exact yL _ _
  ·exact PE (fW K (by simp[Op.operands]) hx).2 _
theorem Ir{T:TypeId}{b:Bool}(hx:dB σ.g x=some (.v Wr.bool b)):JO F ⟨d,.unOp .not T x,ty,p,af,gd⟩ σ (.v Wr.bool (!b)) []:=
 fun ρ S _ w K=>VU.value (w':=w) (v:= .bool (!b)) (by simp[execOp,Xo K (x:=x) (by simp[Op.operands]) hx,Op.unary]) (XV.same (nL _ ρ S w))
theorem GB{T:TypeId}{k:IntKind}{n:Int}(hx:dB σ.g x=some (.v (Wr.int k) n)):JO F ⟨d,.unOp .neg T x,ty,p,af,gd⟩ σ (.v (Wr.int k) (k.wrap (0 - n))) []:=
 fun ρ S _ w K=>VU.value (w':=w) (v:= .int k (k.wrap (0 - n))) (by simp[execOp,(fW K (x:=x) (by simp[Op.operands]) hx).1,Op.unary,Op.intArith]) (XV.same (tF (yL _ _) ρ S w))
def CM(k:IntKind)(n:Int):Int:=k.wrap (BitVec.ofInt k.bits (if k.signed then -1 else k.max) ^^^ BitVec.ofInt k.bits n).toNat
theorem PF{T:TypeId}{k:IntKind}{n:Int}(hx:dB σ.g x=some (.v (Wr.int k) n)):JO F ⟨d,.unOp .xor T x,ty,p,af,gd⟩ σ (.v (Wr.int k) (CM k n)) []:=
 fun ρ S _ w K=>VU.value (w':=w) (v:= .int k (CM k n)) (by simp[execOp,(fW K (x:=x) (by simp[Op.operands]) hx).1,Op.unary,Op.intBits,CM]) (XV.same (tF (yL _ _) ρ S w))
theorem AA{A B:TypeId}{da:TypeDesc}{k k':IntKind}{n:Int}(ha:∀w,(underlying A).run F.P w= .ok da w)(hb:∀w,(underlying B).run F.P w= .ok (.int k') w)(hx:dB σ.g x=some (.v (Wr.int k) n)):
  JO F ⟨d,.convert A B x,ty,p,af,gd⟩ σ (.v (Wr.int k') (k'.wrap n)) []:=
 fun ρ S _ w K=>VU.value (w':=w) (v:= .int k' (k'.wrap n)) (by simp[execOp,(fW K (x:=x) (by simp[Op.operands]) hx).1,convert,ha,hb,Conv.intToInt]) (XV.same (tF (yL _ _) ρ S w))
theorem GC{T:TypeId}{n:Int}(ha:∀w,(underlying T).run F.P w= .ok (.int .i64) w)(hx:dB σ.g x=some (.v (Wr.int .i64) n)):
  JO F ⟨d,.makeInterface T x,ty,p,af,gd⟩ σ (.v (Wr.err T) (some n)) []:=by
 intro ρ S a w K;obtain⟨h,u⟩:=fW K (x:=x) (by simp[Op.operands]) hx;exact VU.value (w':=w) (v:= .iface T (.int .i64 n)) (by simp[execOp,h,Instr.makeInterface,ha]) (XV.same (by simp only[Slot.ok];exact Ar.2 ⟨rfl,u⟩))
theorem bU{n:Nat}{l:List Slot}(hx:dB σ.g x=some (.WL l))(hs:l[n]? =some s):JO F ⟨d,.extract x n,ty,p,af,gd⟩ σ s []:=by
 intro ρ S a w K;have h:=K.slot x (by simp[Op.operands]) _ hx;simp only[Slot.ok] at h;obtain⟨vs,E,G⟩:=h;have D:∀(l:List Slot) (vs:List Value) (n:Nat),aV ρ S w l vs->l[n]? =some s->∃v,vs[n]? =some v/\s.ok ρ S w v:=by
  intro l
  induction l with
  |nil=>intro vs n _ h;simp at h
  |cons t l I=>
   intro vs n C z;simp only[aV] at C;obtain⟨u,H,rfl,A,B⟩:=C;cases n with
   |zero=>simp at z;subst z;exact⟨u,rfl,A⟩
   |succ n=>exact I H n B (by simpa using z)
 obtain⟨v,A,B⟩:=D l vs n G hs;exact VU.value (w':=w) (v:=v) (by simp[execOp,E,Instr.extract,A]) (XV.same B)
theorem AB{σ:AS}{xs:Array Operand}{ρ S a w}(K:p3 σ xs ρ S a w){x:Operand}(hm:x∈xs){T:TypeId}{o:Option Int}(hx:dB σ.g x=some (.v (Wr.err T) o)):
  a.eval x=(match o with | none=> .nilIface | some n=> .iface T (.int .i64 n)):=by
 have:=K.slot x hm _ hx;simp only[Slot.ok] at this;cases o with
 |none=>exact Aq.1 this
 |some n=>exact(Ar.1 this).1
theorem Ub(t:TypeId)(x y:Value):Op.equal t x y=Op.equalIn (9998+1+1) t x y:=rfl
theorem Xp{P:Program}{a:Act}{w:World}{o:BinOp}{T T':TypeId}{u v:Value}{r b:Bool}(ho:(o= .eql/\b=r)\/(o= .neq/\b= !r))(hx:a.eval x=u)(hy:a.eval y=v)
  (hk:∀k m,u≠.int k m) (hs:∀s,u≠.string s) (hf:∀k m,u≠.float k m) (hc:∀k m n,u≠.complex k m n)
  (hg:(eqGuard o T x y u v).run P w= .ok () w) (he:(Op.equalIn (9998+1+1) T u v).run P w= .ok r w):
  (execOp a.eval ⟨d,.binOp o T x y T',ty,p,af,gd⟩).run P w= .ok (.value (.bool b)) w:=by
 have h:(Go.binOp o T u v).run P w= .ok (.bool b) w:=by
  rcases ho with⟨rfl,rfl⟩|⟨rfl,rfl⟩
  ·have:Go.binOp .eql T u v=(do pure (.bool (<-Op.equal T u v))):=by
    cases u<;>first | rfl | (exact absurd rfl (hk _ _)) | (exact absurd rfl (hs _)) | (exact absurd rfl (hf _ _)) | (exact absurd rfl (hc _ _ _))
   rw[this,Ub];simp[he]
  ·have:Go.binOp .neq T u v=(do pure (.bool (!(<-Op.equal T u v)))):=by
    cases u<;>first | rfl | (exact absurd rfl (hk _ _)) | (exact absurd rfl (hs _)) | (exact absurd rfl (hf _ _)) | (exact absurd rfl (hc _ _ _))
   rw[this,Ub];simp[he]
 simp only[execOp,hx,hy];simp[hg,h]
theorem GD{P:Program}{w:World}{U T:TypeId}{ms:Array (String×TypeId)}{ti:TypeInfo}(ha:∀w,(underlying U).run P w= .ok (.interface ms) w)(hT:∀w,(underlying T).run P w= .ok (.int .i64) w)
  (hi:∀w,(typeInfo T).run P w= .ok ti w) (oq:ti.comparable=true) (m n:Int):(Op.equalIn (9998+1+1) U (.iface T (.int .i64 m)) (.iface T (.int .i64 n))).run P w= .ok (m==n) w:=by
 rw[Op.equalIn];simp only[Sem.run_bind,ha,Result.andThen_ok];simp only[ne_eq,aC1,j5,Sem.run_bind,hi,Result.andThen_ok,oq,iz,P2];rw[Op.equalIn];simp[hT]
theorem Cw{P:Program}{w:World}{U T:TypeId}{ms:Array (String×TypeId)}(ha:∀w,(underlying U).run P w= .ok (.interface ms) w)(v:Value):(Op.equalIn (9998+1+1) U (.iface T v) .nilIface).run P w= .ok false w/\(Op.equalIn (9998+1+1) U .nilIface (.iface T v)).run P w= .ok false w/\(Op.equalIn (9998+1+1) U .nilIface .nilIface).run P w= .ok true w:=by
 refine⟨?_,?_,?_⟩<;>(rw[Op.equalIn];simp[ha])
theorem iH{T U U':TypeId}{o:Option Int}{ms:Array (String×TypeId)}(ha:∀w,(underlying U).run F.P w= .ok (.interface ms) w)(hx:dB σ.g x=some (.v (Wr.err T) o)):
  JO F ⟨d,.binOp .eql U x (.const .nilIface) U',ty,p,af,gd⟩ σ (.v Wr.bool o.isNone) []:=by
 intro ρ S a w K;have h:=AB K (x:=x) (by simp[Op.operands]) hx;refine VU.value (w':=w) (v:= .bool o.isNone) (Xp (r:=o.isNone) ?_ h rfl ?_ ?_ ?_ ?_ ?_ ?_) (XV.same (nL _ ρ S w))
 ·cases o<;>simp
 ·cases o<;>simp
 ·cases o<;>simp
 ·cases o<;>simp
 ·cases o<;>simp
 ·cases o<;>simp[eqGuard,Act.eval]
 ·cases o with
  |none=>exact(Cw (T:=T) ha .nilIface).2.2
  |some n=>exact(Cw ha _).1
theorem GF{T U U':TypeId}{o:Option Int}{ms:Array (String×TypeId)}(ha:∀w,(underlying U).run F.P w= .ok (.interface ms) w)(hx:dB σ.g x=some (.v (Wr.err T) o)):
  JO F ⟨d,.binOp .neq U x (.const .nilIface) U',ty,p,af,gd⟩ σ (.v Wr.bool o.isSome) []:=by
 intro ρ S a w K;have h:=AB K (x:=x) (by simp[Op.operands]) hx;refine VU.value (w':=w) (v:= .bool o.isSome) (Xp (r:=o.isNone) ?_ h rfl ?_ ?_ ?_ ?_ ?_ ?_) (XV.same (nL _ ρ S w))
 ·cases o<;>simp
 ·cases o<;>simp
 ·cases o<;>simp
 ·cases o<;>simp
 ·cases o<;>simp
 ·cases o<;>simp[eqGuard,Act.eval]
 ·cases o with
  |none=>exact(Cw (T:=T) ha .nilIface).2.2
  |some n=>exact(Cw ha _).1
theorem CN{T U U':TypeId}{o:Option Int}{n:Int}{ms:Array (String×TypeId)}{ti:TypeInfo}(ha:∀w,(underlying U).run F.P w= .ok (.interface ms) w)(hT:∀w,(underlying T).run F.P w= .ok (.int .i64) w)
  (hi:∀w,(typeInfo T).run F.P w= .ok ti w) (oq:ti.comparable=true)
  (hx:dB σ.g x=some (.v (Wr.err T) o)) (hy:dB σ.g y=some (.v (Wr.err T) (some n))):
  JO F ⟨d,.binOp .eql U x y U',ty,p,af,gd⟩ σ (.v Wr.bool (o==some n)) []:=by
 intro ρ S a w K;have h:=AB K (x:=x) (by simp[Op.operands]) hx;have u:=AB K (x:=y) (by simp[Op.operands]) hy;refine VU.value (w':=w) (v:= .bool (o==some n)) (Xp (r:=(o==some n)) ?_ h u ?_ ?_ ?_ ?_ ?_ ?_) (XV.same (nL _ ρ S w))
 ·simp
 ·cases o<;>simp
 ·cases o<;>simp
 ·cases o<;>simp
 ·cases o<;>simp
 ·cases o<;>simp[eqGuard]
 ·cases o with
  |none=>exact(Cw ha _).2.1
  |some m=>rw[GD ha hT hi oq];rfl
end
end Go.Sw
namespace Go.Sw
open Go Go.RowKit
theorem WC.cell{w:World}{b off:Nat}{cs:List Value}(h:WC w b off cs):∀j v,cs[j]? =some v->w.cell? ((⟨b,off,none⟩:Addr).add j)=some v:=by
 obtain⟨c,T,D,B,C⟩:=h;intro j v A;have u:j<cs.length:=by
  rcases M3 j cs.length with h | h
  ·exact h
  ·simp[Z7 h] at A
 have z:cs[j]=v:=by simpa[E8 u] using A
 have:=C j u;unfold Addr.add;split
 ·rename_i e;subst e;simp[World.cell?,B];simpa[z] using this
 ·simp[World.cell?,B,this,z]
theorem WC.sub{w:World}{b off:Nat}{a c d:List Value}(h:WC w b off (a++(c++d))):WC w b (off+a.length) c:=by
 obtain⟨r,T,z,A,B⟩:=h;refine⟨r,T,z,A,fun j u=>?_⟩;have:=B (a.length+j) (by simp;omega);rw[aDu,this];simp[aC8 u]
theorem WC.of_heap{w:World}{b:Nat}{cs:List Value}{T fr}(h:w.heap[b]? =some (.cells cs.toArray T fr)):WC w b 0 cs:=
 ⟨_,T,fr,h,fun j u=>by simp[E8 u]⟩
theorem WC.lt{w:World}{b off:Nat}{cs:List Value}(h:WC w b off cs):b<w.heap.size:=by
 obtain⟨r,T,z,u,A⟩:=h;rcases M3 b w.heap.size with h | h
 ·exact h
 ·simp[zn h] at u
theorem Fx{α:Type}{P:Program}{e:Wr α}{x:α}{S:Nat->Prop}{w w0:World}{b off:Nat}{cs:List Value}{U:TypeId}(h:WC w b off cs)(ho:e.ok x S w0 cs)
  (hA:∀w,(isAgg U).run P w= .ok e.agg w) (hS:∀w,(sizeOf U).run P w= .ok e.n w):(loadVar U ⟨b,off,none⟩).run P w= .ok (e.pk cs) w:=by
 unfold loadVar;simp only[Sem.run_bind,hA,Result.andThen_ok];have u:=e.len ho;cases ha:e.agg with
 |true=>
  simp only[l3,Sem.run_bind,hS,Result.andThen_ok,Wr.pk,ha];rw[<-u,run_loadCells_list w _ cs h.cell];simp
 |false=>
  have z:=e.one ha;rw[z] at u;obtain⟨v,rfl⟩:=aCf.1 u;have:=h.cell 0 v rfl;simp[Addr.add] at this;simp[Wr.pk,ha,this]
def Slot.sz:Slot->Nat
 | .v e _=>e.n
 |_=>1
def Slot.ag:Slot->Bool
 | .v e _=>e.agg
 |_=>false
section
variable {ρ:Nat->LV}{S:Nat->Prop}{w:World}
theorem nM{s:Slot}{c:List Value}(h:s.ZD ρ S w c):c.length=s.sz:=by
 cases s<;>simp only[Slot.ZD] at h<;>simp only[Slot.sz]
 case v e x=>exact e.len h
 case ref=>rw[h.2];rfl
 case ptr=>rw[h.2];rfl
 case fg=>rw[h.2];rfl
 case el=>rw[h.2];rfl
 case w8=>rw[h.2];rfl
 case mq=>rw[h.2];rfl
 case sub=>obtain⟨_,u,z,_,_,h⟩:=h;rw[h];rfl
 case YA=>obtain⟨b,A,B,h,_⟩:=h;rw[h];rfl
 case ZT=>obtain⟨vs,h,_⟩:=h;rw[h];rfl
 case top=>rw[h];rfl
theorem AD{s:Slot}{c:List Value}(h:s.ZD ρ S w c):s.ok ρ S w (if s.ag then .agg c.toArray else c.headD undef):=by
 cases s<;>simp only[Slot.ZD] at h<;>simp only[Slot.ok,Slot.ag]
 case v e x=>exact⟨c,h,rfl⟩
 case ref=>rw[h.2];exact⟨h.1,rfl⟩
 case ptr=>rw[h.2];exact⟨h.1,rfl⟩
 case fg=>rw[h.2];exact⟨h.1,rfl⟩
 case el=>rw[h.2];exact⟨h.1,rfl⟩
 case w8=>rw[h.2];exact⟨h.1,rfl⟩
 case mq=>rw[h.2];exact⟨h.1,rfl⟩
 case sub=>obtain⟨z,A,B,C,D,E⟩:=h;rw[E];exact⟨z,A,B,C,D,rfl⟩
 case YA=>obtain⟨b,F,G,h,u⟩:=h;rw[h];exact⟨b,F,G,rfl,u⟩
 case ZT=>obtain⟨vs,h,u⟩:=h;rw[h];exact⟨vs,rfl,u⟩
 case top=>rw[h];rfl
def Slot.plain:Slot->Bool
 | .agg _=>false
 | .WL _=>false
 | .top=>false
 |_=>true
theorem qT{s:Slot}{v:Value}(hp:s.plain=true)(h:s.ok ρ S w v):s.ZD ρ S w v.cells.toList:=by
 cases s<;>simp only[Slot.plain,P2] at hp<;>simp only[Slot.ok] at h<;>simp only[Slot.ZD]
 case v e x=>
  obtain⟨H,z,rfl⟩:=h;unfold Wr.pk;cases ha:e.agg with
  |true=>simpa[Value.cells] using z
  |false=>
   have B:=e.len z;rw[e.one ha] at B;obtain⟨u,rfl⟩:=aCf.1 B;have:=Rk (e.cell z u (by simp));simp[this,z]
 case ref i=>
  obtain⟨⟨a,l,c,z⟩|⟨a,z⟩,rfl⟩:=h
  ·exact⟨.inl ⟨a,l,c,z⟩,by simp[z,Value.cells]⟩
  ·exact⟨.inr ⟨a,z⟩,by simp[z,Value.cells]⟩
 case ptr i A=>obtain⟨⟨b,z⟩,rfl⟩:=h;exact⟨⟨b,z⟩,by simp[z,Cv,Value.cells]⟩
 case fg i A k n=>obtain⟨⟨b,z⟩,rfl⟩:=h;exact⟨⟨b,z⟩,by simp[z,Cv,Value.cells]⟩
 case el i k n A=>obtain⟨⟨b,o,l,c,z⟩,rfl⟩:=h;exact⟨⟨b,o,l,c,z⟩,by simp[z,Ls,Value.cells]⟩
 case w8 i A lo n cap=>obtain⟨⟨b,z⟩,rfl⟩:=h;exact⟨⟨b,z⟩,by simp[z,FT,Value.cells]⟩
 case mq i A n cap=>obtain⟨⟨b,o,l,c,z⟩,rfl⟩:=h;exact⟨⟨b,o,l,c,z⟩,by simp[z,FU,Value.cells]⟩
 case sub i A n=>obtain⟨⟨a,l,c,z⟩,C,D,E,F,rfl⟩:=h;exact⟨⟨a,l,c,z⟩,C,D,E,F,by rw[z];cases a<;>simp[Tv,Value.cells]⟩
 case YA e x=>obtain⟨b,A,G,rfl,z⟩:=h;exact⟨b,A,G,rfl,z⟩
 case ZT g cap=>obtain⟨vs,rfl,z⟩:=h;exact⟨vs,rfl,z⟩
def nJ:List Slot->Nat->Option Slot
 | [],_=>none
 |s::r,off=>bif Nat.beq off 0 then some s else bif Nat.ble s.sz off then nJ r (off - s.sz) else none
def nW:List Slot->Nat->Slot->List Slot
 | [],_,_=>[]
 |s::r,off,h=>bif Nat.beq off 0 then h::r else s::nW r (off - s.sz) h
theorem uY:∀{l:List Slot} {off:Nat} {s:Slot} {cs:List Value},nJ l off=some s->bN ρ S w l cs->
  ∃a c d,cs=a++(c++d)/\a.length=off/\s.ZD ρ S w c/\∀s' c',s'.ZD ρ S w c'->bN ρ S w (nW l off s') (a++(c'++d))
 | [],_,_,_,h,_=>by simp[nJ] at h
 |t::r,off,s,cs,h,k=>by
  simp only[bN] at k;obtain⟨c,d,rfl,z,B⟩:=k;simp only[nJ] at h;cases hb:Nat.beq off 0 with
  |true=>
   rw[hb] at h;simp at h;subst h;have:=w9 hb;subst this;exact⟨[],c,d,rfl,rfl,z,fun s' c' u=>by simp only[nW,U7];exact⟨c',d,rfl,u,B⟩⟩
  |false=>
   rw[hb] at h;simp only[pF] at h;cases hle:Nat.ble t.sz off with
   |false=>rw[hle] at h;simp at h
   |true=>
    rw[hle] at h;have I:=A6 hle;obtain⟨C,c',D,E,F,G,H⟩:=uY (l:=r) (by simpa using h) B;refine⟨c++C,c',D,by rw[E,C9],by rw[sM,nM z,F];omega,G,fun s' A u=>?_⟩;simp only[nW,hb,pF,bN];exact⟨c,C++(A++D),by rw[C9],z,H s' A u⟩
def M5{α:Type}(l:List Slot)(e:Wr α)(x:α):Prop:=∀ρ S w cs,bN ρ S w l cs↔e.ok x S w cs
theorem M5.one{α:Type}(e:Wr α)(x:α):M5 [.v e x] e x:=by
 intro ρ S w cs;simp only[bN,Slot.ZD];constructor
 ·rintro⟨c,d,rfl,h,rfl⟩;simpa using h
 ·intro h;exact⟨cs,[],by simp,h,rfl⟩
theorem xG{l l':List Slot}{ρ S w}:∀{cs},bN ρ S w (l++l') cs↔∃c d,cs=c++d/\bN ρ S w l c/\bN ρ S w l' d:=by
 induction l with
 |nil=>
  intro cs;simp only[U7,bN];constructor
  ·intro h;exact⟨[],cs,rfl,rfl,h⟩
  ·rintro⟨c,d,rfl,rfl,h⟩;simpa using h
 |cons t l D=>
  intro cs;simp only[cz,bN,D];constructor
  ·rintro⟨c,d,rfl,z,u,C,rfl,A,B⟩;exact⟨c++u,C,by simp,⟨c,u,rfl,z,A⟩,B⟩
  ·rintro⟨_,d,rfl,⟨c,u,rfl,z,A⟩,B⟩;exact⟨c,u++d,by simp,z,u,d,rfl,A,B⟩
theorem M5.pr{α β:Type}{l l':List Slot}{a:Wr α}{b:Wr β}{x:α×β}(h:M5 l a x.1)(h':M5 l' b x.2):M5 (l++l') (Wr.pr a b) x:=by
 intro ρ S w cs;rw[xG];constructor
 ·rintro⟨c,d,rfl,u,z⟩;exact⟨c,d,rfl,(h ρ S w c).1 u,(h' ρ S w d).1 z⟩
 ·rintro⟨c,d,rfl,u,z⟩;exact⟨c,d,rfl,(h ρ S w c).2 u,(h' ρ S w d).2 z⟩
theorem M5.J2{α:Type}{l:List Slot}{a:Wr α}{x:α}(h:M5 l a x):M5 l (Wr.J2 a) x:=h
end
end Go.Sw
namespace Go.Sw
open Go Go.RowKit
theorem GG{ρ:Nat->LV}{S:Nat->Prop}{w w':World}{v:Value}{i:Nat}{en:VS}{s:Slot}(u:LV)(hb:Below w.heap.size w w')
  (y9:en.YJ.all (fun j=> !Nat.beq j i)=true)
  (gy:∀b,qQ u b->w.heap.size<=b/\b<w'.heap.size)
  (G8:∀S' ρ',(∀k,k<w.heap.size->S' k->S k)->mO ρ ρ' en.YJ->en.ok ρ' S' w' u)
  (hs:∀S' ρ',(∀k,k<w.heap.size->S' k->S k)->(ρ' i).v=u.v->(∀j,j≠i->ρ' j=ρ j)->s.ok ρ' S' w' v):XV ρ S w s [(i,en)] v w':=by
 let ρ':Nat->LV:=fun j=>if j=i then u else ρ j
 have B:ρ' i=u:=WV rfl;have C:∀j,j≠i->ρ' j=ρ j:=fun j h=>WM h;have A:∀j z,aW [(i,en)] j=some z->j=i/\z=en:=by
  intro j z h;simp only[aW] at h;cases hb:Nat.beq i j with
  |true=>have:=w9 hb;subst this;rw[hb] at h;simp at h;exact⟨rfl,h.symm⟩
  |false=>rw[hb] at h;simp at h
 have D:∀k,k<w.heap.size->Un S ρ' [(i,en)] k->S k:=by
  rintro k M (h |⟨j,z,L,F⟩)
  ·exact h
  ·obtain⟨rfl,rfl⟩:=A j z L;rw[B] at F;have:=(gy k F).1;omega
 refine⟨ρ',fun j h=>C j (fun e=>by subst e;simp[aW] at h),hb,hs _ _ D (congrArg LV.v B) C,⟨fun j z h=>?_,fun j z b h E=>?_,fun j k z G b h H _ _=>?_⟩⟩
 ·obtain⟨rfl,rfl⟩:=A j z h;rw[B];refine G8 _ _ D fun I K=>congrArg LV.v (C I fun e=>?_);subst e;have:=o7.1 y9 _ K;simp at this
 ·obtain⟨rfl,rfl⟩:=A j z h;rw[B] at E;exact gy b E
 ·rw[(A j z h).1,(A k G H).1]
theorem zN{ρ:Nat->LV}{S:Nat->Prop}{w w':World}{v:Value}{i:Nat}{en:VS}{s:Slot}(u:Value)(hb:Below w.heap.size w w')
  (y9:en.YJ.all (fun j=> !Nat.beq j i)=true)
  (gy:∀b,YV u=some b->w.heap.size<=b/\b<w'.heap.size)
  (G8:∀S' ρ',(∀k,k<w.heap.size->S' k->S k)->mO ρ ρ' en.YJ->en.ok ρ' S' w' (.of u))
  (hs:∀S' ρ',(∀k,k<w.heap.size->S' k->S k)->(ρ' i).v=u->(∀j,j≠i->ρ' j=ρ j)->s.ok ρ' S' w' v):XV ρ S w s [(i,en)] v w':=
 GG (.of u) hb y9 (fun b h=>gy b (pH.1 h)) G8 hs
theorem lK(w:World)(o:Obj):Below w.heap.size w (w.alloc o):=(Below.refl _ _).alloc (YQ _) o
theorem Rm{S S':Nat->Prop}{w w':World}(hb:Below w.heap.size w w')(h:∀k,k<w.heap.size->S' k->S k):Ext S S' w w':=rJ hb h
theorem XV.box{ρ:Nat->LV}{S:Nat->Prop}{w:World}{T:TypeId}{l:List Slot}{cs:List Value}(i:Nat)(hl:bN ρ S w l cs)
  (y9:(eA l).all (fun j=> !Nat.beq j i)=true):XV ρ S w (.ptr i 0) [(i,.box T l)] (.pointer (some ⟨w.heap.size,0,none⟩)) (w.alloc (.cells cs.toArray T)):=by
 refine zN (.pointer (some ⟨w.heap.size,0,none⟩)) (lK _ _) y9 ?_ ?_ ?_
 ·intro b u;simp[YV] at u;subst u;exact⟨YQ _,by simp⟩
 ·intro z ρ' h ha;exact⟨⟨_,cs,rfl,heap_alloc_new _ _,fU l cs hl (Rm (lK _ _) h) ha⟩,fun _ h=>by cases h⟩
 ·intro z ρ' _ hi _;simp only[Slot.ok];exact⟨⟨_,hi⟩,by rw[hi];rfl⟩
section
variable {F:XG}{σ:AS}{pb:Option Nat}{s:Slot}{d:Option Tmp}{ty:TypeId}{p:String}{af:Array Edge}{gd:Option (Nat×Bool)}{x y c:Operand}
theorem xH(P:Program)(w:World)(T:TypeId)(v:Value):(newVar T v).run P w= .ok ⟨w.heap.size,0,none⟩ (w.alloc (.cells v.cells T)):=by
 simp[newVar,newRow]
theorem cJ{α:Type}{e:Wr α}{z:α}{T:TypeId}{l:List Slot}(i:Nat)(hx:dB σ.g x=some (.v e z))(hl:M5 l e z)(y9:(eA l).all (fun j=> !Nat.beq j i)=true):
  JO F ⟨d,.box T x,ty,p,af,gd⟩ σ (.ptr i 0) [(i,.box T l)]:=by
 intro ρ S a w K;have h:=qT (s:= .v e z) rfl (K.slot x (by simp[Op.operands]) _ hx);simp only[Slot.ZD] at h;refine VU.value (w':=w.alloc (.cells (a.eval x).cells.toList.toArray T)) (v:= .pointer (some ⟨w.heap.size,0,none⟩)) (by simp[execOp,Instr.box,xH]) ?_;exact XV.box i ((hl ρ S w _).2 h) y9
theorem zO{T:TypeId}{l:List Slot}(i:Nat)(hx:dB σ.g x=some (.agg l))(y9:(eA l).all (fun j=> !Nat.beq j i)=true):
  JO F ⟨d,.box T x,ty,p,af,gd⟩ σ (.ptr i 0) [(i,.box T l)]:=by
 intro ρ S a w K;have h:=K.slot x (by simp[Op.operands]) _ hx;simp only[Slot.ok] at h;obtain⟨u,z,A⟩:=h;refine VU.value (w':=w.alloc (.cells u.toArray T)) (v:= .pointer (some ⟨w.heap.size,0,none⟩)) (by simp[execOp,Instr.box,xH,z,Value.cells]) ?_;exact XV.box i A y9
def Zr(cs:List Value)(l:List Slot):Prop:=∀ρ S w,bN ρ S w l cs
theorem Zr.nil:Zr [] []:=fun _ _ _=>rfl
theorem Zr.cons{cs:List Value}{l:List Slot}{α:Type}{e:Wr α}{z:α}{c:List Value}(h:∀S w,e.ok z S w c)(k:Zr cs l):Zr (c++cs) (.v e z::l):=fun ρ S w=>by
 simp only[bN];exact⟨c,cs,rfl,by simp only[Slot.ZD];exact h S w,k ρ S w⟩
theorem Z.int(k:IntKind):∀S w,(Wr.int k).ok 0 S w [.int k 0]:=fun _ _=>⟨rfl,by cases k<;>decide⟩
theorem Z.bool:∀S w,Wr.bool.ok false S w [.bool false]:=fun _ _=>rfl
theorem Z.sl{α:Type}(e:Wr α):∀S w,(Wr.sl e).ok [] S w [.slice none 0 0]:=fun _ _=>⟨none,0,rfl,by simp,.inl rfl⟩
theorem Z.err(T:TypeId):∀S w,(Wr.err T).ok none S w [.nilIface]:=fun _ _=>rfl
theorem Z.arr{α:Type}{e:Wr α}{z:α}{c:List Value}(m:Nat)(h:∀S w,e.ok z S w c):∀S w,(Wr.arr m e).ok (List.replicate m z) S w (List.replicate m c).flatten:=by
 intro S w;refine⟨by simp,?_⟩
 induction m with
 |zero=>simp[Wr.YY]
 |succ m u=>rw[aDt,aDt,aC2];exact⟨c,_,rfl,h S w,u⟩
theorem Z.pr{α β:Type}{a:Wr α}{b:Wr β}{x:α}{y:β}{c d:List Value}(h:∀S w,a.ok x S w c)(k:∀S w,b.ok y S w d):∀S w,(Wr.pr a b).ok (x,y) S w (c++d):=fun S w=>⟨c,d,rfl,h S w,k S w⟩
theorem aN{T:TypeId}{z:Value}{cs:List Value}{l:List Slot}(i:Nat)(hz:∀w,(zeroValue T).run F.P w= .ok z w)(hc:z.cells=cs.toArray)(hl:Zr cs l)(y9:(eA l).all (fun j=> !Nat.beq j i)=true):
  JO F ⟨d,.alloc T,ty,p,af,gd⟩ σ (.ptr i 0) [(i,.box T l)]:=by
 intro ρ S a w K;refine VU.value (w':=w.alloc (.cells cs.toArray T)) (v:= .pointer (some ⟨w.heap.size,0,none⟩)) (by simp[execOp,Instr.alloc,hz,xH,hc]) ?_;exact XV.box i (hl ρ S w) y9
theorem zP{xs:Array Operand}{ρ:Nat->LV}{S a w}(K:p3 σ xs ρ S a w)(hm:x∈xs){i off:Nat}{T:TypeId}{l:List Slot}(hx:dB σ.g x=some (.ptr i off))(he:aW σ.d i=some (.box T l pb)):
  ∃b cs,(ρ i).v= .pointer (some ⟨b,0,none⟩)/\a.eval x= .pointer (some ⟨b,off,none⟩)/\w.heap[b]? =some (.cells cs.toArray T (0,0))/\bN ρ S w l cs:=by
 have h:=K.slot x hm _ hx;simp only[Slot.ok] at h;obtain⟨⟨b,u⟩,z⟩:=h;have:=(K.B9 x hm _ hx i (by simp[Slot.YJ]) _ he).1;rw[u] at z;obtain⟨⟨A,cs,B,C,D⟩,_⟩:=this;have:A=b:=by rw[u] at B;simpa using B.symm
 subst this;exact⟨A,cs,u,z,C,D⟩
theorem aI{T U:TypeId}{l:List Slot}{i off:Nat}(hx:dB σ.g x=some (.ptr i off))(he:aW σ.d i=some (.box T l pb))(ho:nJ l off=some s)
  (hA:∀w,(isAgg U).run F.P w= .ok s.ag w) (hS:∀w,(sizeOf U).run F.P w= .ok s.sz w):JO F ⟨d,.load U x,ty,p,af,gd⟩ σ s []:=by
 intro ρ S a w K;obtain⟨b,G,z,C,D,E⟩:=zP K (by simp[Op.operands]) hx he;obtain⟨A,c,H,rfl,rfl,B,_⟩:=uY ho E;have h:WC w b A.length c:=by have:=(WC.of_heap D).sub;simpa using this
 have u:=nM B;refine VU.value (w':=w) (v:=if s.ag then .agg c.toArray else c.headD undef) ?_ (XV.same (AD B));have:(loadVar U ⟨b,A.length,none⟩).run F.P w= .ok (if s.ag then .agg c.toArray else c.headD undef) w:=by
  unfold loadVar;simp only[Sem.run_bind,hA,Result.andThen_ok];cases ha:s.ag with
  |true=>
   simp only[l3,Sem.run_bind,hS,Result.andThen_ok];rw[<-u,run_loadCells_list w _ c h.cell];simp
  |false=>
   have z:c.length=1:=by
    rw[u];cases s<;>simp only[Slot.ag,Slot.sz] at ha ⊢;exact Wr.one _ ha
   obtain⟨v,rfl⟩:=aCf.1 z;have:=h.cell 0 v rfl;simp[Addr.add] at this;simp[this]
 simp[execOp,C,Instr.loadAt,Instr.sureAddr,this]
theorem aX{α:Type}{e:Wr α}{z:α}{T U:TypeId}{l:List Slot}{i:Nat}(hx:dB σ.g x=some (.ptr i 0))(he:aW σ.d i=some (.box T l pb))(hl:M5 l e z)
  (hA:∀w,(isAgg U).run F.P w= .ok e.agg w) (hS:∀w,(sizeOf U).run F.P w= .ok e.n w):JO F ⟨d,.load U x,ty,p,af,gd⟩ σ (.v e z) []:=by
 intro ρ S a w K;obtain⟨b,h,D,A,B,C⟩:=zP K (by simp[Op.operands]) hx he;have u:=(hl ρ S w h).1 C;refine VU.value (w':=w) (v:=e.pk h) ?_ (XV.same (by simp only[Slot.ok];exact⟨h,u,rfl⟩));have:=Fx (P:=F.P) (WC.of_heap B) u hA hS;simp[execOp,A,Instr.loadAt,Instr.sureAddr,this]
theorem iB{T U:TypeId}{l:List Slot}{i n:Nat}(hx:dB σ.g x=some (.ptr i 0))(he:aW σ.d i=some (.box T l pb))(hn:(l.map Slot.sz).sum=n)
  (hA:∀w,(isAgg U).run F.P w= .ok true w) (hS:∀w,(sizeOf U).run F.P w= .ok n w):JO F ⟨d,.load U x,ty,p,af,gd⟩ σ (.agg l) []:=by
 intro ρ S a w K;obtain⟨b,h,G,B,z,u⟩:=zP K (by simp[Op.operands]) hx he;have A:h.length=n:=by
  rw[<-hn];clear hn hS hx he z
  induction l generalizing h with
  |nil=>simp only[bN] at u;simp[u]
  |cons t l E=>
   simp only[bN] at u;obtain⟨c,d,rfl,C,D⟩:=u;rw[sM,nM C,E d D];simp
 refine VU.value (w':=w) (v:= .agg h.toArray) ?_ (XV.same (by simp only[Slot.ok];exact⟨h,rfl,u⟩));have:(loadVar U ⟨b,0,none⟩).run F.P w= .ok (.agg h.toArray) w:=by
  unfold loadVar;simp only[Sem.run_bind,hA,Result.andThen_ok,l3,hS];rw[<-A,run_loadCells_list w _ h (WC.of_heap z).cell];simp
 simp[execOp,B,Instr.loadAt,Instr.sureAddr,this]
theorem cE{α:Type}{e:Wr α}{z:α}{U:TypeId}(hx:dB σ.g x=some (.YA e z))(hA:∀w,(isAgg U).run F.P w= .ok e.agg w)(hS:∀w,(sizeOf U).run F.P w= .ok e.n w):
  JO F ⟨d,.load U x,ty,p,af,gd⟩ σ (.v e z) []:=by
 intro ρ S a w K;have h:=K.slot x (by simp[Op.operands]) _ hx;simp only[Slot.ok] at h;obtain⟨b,D,u,B,_,_,C,A⟩:=h;refine VU.value (w':=w) (v:=e.pk u) ?_ (XV.same (by simp only[Slot.ok];exact⟨u,A,rfl⟩));have:=Fx (P:=F.P) C A hA hS;simp[execOp,B,Instr.loadAt,Instr.sureAddr,this]
theorem Cx{P:Program}{w:World}{U:TypeId}{fs:Array Field}{n b off m:Nat}{fl:Field}(hU:∀w,(underlying U).run P w= .ok (.struct fs) w)(hf:fs[n]? =some fl)(hm:∀w,(sizeOf fl.type).run P w= .ok m w)(YZ:Nat.beq m 0=false):
  (Instr.fieldAt U (.pointer (some ⟨b,off,none⟩)) n).run P w= .ok (.pointer (some ⟨b,off+fl.offset,none⟩)) w:=by
 have u:m≠0:=fun e=>by subst e;simp at YZ
 have:Addr.add ⟨b,off,none⟩ fl.offset=⟨b,off+fl.offset,none⟩:=by
  unfold Addr.add;split
  ·rename_i h;rw[h];rfl
  ·rfl
 simp[Instr.fieldAt,hU,hf,Instr.sureAddr,fieldPlace,hm,u,this]
theorem aA(o:Nat){U:TypeId}{fs:Array Field}{n i off m:Nat}{fl:Field}(hx:dB σ.g x=some (.ptr i off))(hU:∀w,(underlying U).run F.P w= .ok (.struct fs) w)(hf:fs[n]? =some fl)(hm:∀w,(sizeOf fl.type).run F.P w= .ok m w)(YZ:Nat.beq m 0=false)(ho:Nat.beq (off+fl.offset) o=true):
  JO F ⟨d,.fieldAddr U x n,ty,p,af,gd⟩ σ (.ptr i o) []:=by
 have ho:=w9 ho;subst ho;intro ρ S a w K;have h:=K.slot x (by simp[Op.operands]) _ hx;simp only[Slot.ok] at h;obtain⟨⟨b,u⟩,z⟩:=h;rw[u] at z;refine VU.value (w':=w) (v:= .pointer (some ⟨b,off+fl.offset,none⟩)) ?_ (XV.same (by simp only[Slot.ok];exact⟨⟨b,u⟩,by rw[u];rfl⟩));have:=Cx (P:=F.P) (w:=w) (b:=b) (off:=off) hU hf hm YZ;simp only[execOp,z,Cv];simp[this]
def ux{α β:Type}(e:Wr α)(z:α)(off:Nat)(e':Wr β)(z':β):Prop:=∀S w cs,e.ok z S w cs->∃a c d,cs=a++(c++d)/\a.length=off/\e'.ok z' S w c
theorem ux.here{α:Type}{e:Wr α}{z:α}:ux e z 0 e z:=fun _ _ u h=>⟨[],u,[],by simp,rfl,h⟩
theorem ux.fst{α β γ:Type}{a:Wr α}{b:Wr β}{e':Wr γ}{z:α×β}{z':γ}{off:Nat}(h:ux a z.1 off e' z'):ux (Wr.pr a b) z off e' z':=by
 rintro S w F ⟨c,d,rfl,E,G⟩;obtain⟨u,A,B,rfl,C,D⟩:=h S w c E;exact⟨u,A,B++d,by simp,C,D⟩
theorem ux.snd{α β γ:Type}{a:Wr α}{b:Wr β}{e':Wr γ}{z:α×β}{z':γ}{off:Nat}(h:ux b z.2 off e' z'):ux (Wr.pr a b) z (a.n+off) e' z':=by
 rintro S w G ⟨c,d,rfl,E,F⟩;obtain⟨u,A,B,rfl,C,D⟩:=h S w d F;exact⟨c++u,A,B,by simp,by rw[sM,a.len E,C],D⟩
theorem fB{α β:Type}{e:Wr α}{z:α}{e':Wr β}{z':β}{U:TypeId}{fs:Array Field}{n m off:Nat}{fl:Field}(hx:dB σ.g x=some (.YA e z))(hU:∀w,(underlying U).run F.P w= .ok (.struct fs) w)(hf:fs[n]? =some fl)
  (hm:∀w,(sizeOf fl.type).run F.P w= .ok m w) (YZ:Nat.beq m 0=false) (hp:ux e z off e' z') (gn:off=fl.offset):JO F ⟨d,.fieldAddr U x n,ty,p,af,gd⟩ σ (.YA e' z') []:=by
 intro ρ S a w K;have h:=K.slot x (by simp[Op.operands]) _ hx;simp only[Slot.ok] at h;obtain⟨b,o,u,A,B,C,D,E⟩:=h;obtain⟨L,G,M,rfl,H,I⟩:=hp S w u E
 refine VU.value (w':=w) (v:= .pointer (some ⟨b,o+fl.offset,none⟩)) ?_ (XV.same (by
  simp only[Slot.ok];exact⟨b,_,G,rfl,B,C,by rw[<-gn,<-H];exact D.sub,I⟩))
 have:=Cx (P:=F.P) (w:=w) (b:=b) (off:=o) hU hf hm YZ;simp only[execOp,A];simp[this]
def idx{α:Type}(xs:List α)(n:Int):Option α:=if 0<=n then xs[n.toNat]? else none
theorem dQ{α:Type}{xs:List α}{n:Int}{y:α}(h:idx xs n=some y):0<=n/\n.toNat<xs.length/\xs[n.toNat]? =some y:=by
 unfold idx at h;split at h
 ·rename_i z;refine⟨z,?_,h⟩;rcases M3 n.toNat xs.length with u | u
  ·exact u
  ·simp[Z7 u] at h
 ·cases h
theorem Cy{P:Program}{w:World}{U E:TypeId}{m b off len cap:Nat}{k:IntKind}{n:Int}(hU:∀w,(underlying U).run P w= .ok (.slice E) w)(hE:∀w,(sizeOf E).run P w= .ok m w)(h0:0<=n)(h1:n<len):
  (Instr.indexAt U (.slice (some ⟨b,off,none⟩) len cap) (.int k n)).run P w= .ok (.pointer (some ⟨b,off+n.toNat*m,none⟩)) w:=by
 have:Addr.add ⟨b,off,none⟩ (n.toNat*m)=⟨b,off+n.toNat*m,none⟩:=by
  unfold Addr.add;split
  ·rename_i h;rw[h];rfl
  ·rfl
 simp[Instr.indexAt,asIntOf,hU,h0,h1,hE,this]
theorem qG{α:Type}{e:Wr α}{xs:List α}{z:α}{U E:TypeId}{k:IntKind}{n:Int}(hz:Sw.idx xs n=some z)(hx:dB σ.g x=some (.v (Wr.sl e) xs))(hy:dB σ.g y=some (.v (Wr.int k) n))
  (hU:∀w,(underlying U).run F.P w= .ok (.slice E) w) (hE:∀w,(sizeOf E).run F.P w= .ok e.n w):JO F ⟨d,.indexAddr U x y,ty,p,af,gd⟩ σ (.YA e z) []:=by
 intro ρ S a w K;have h:=K.slot x (by simp[Op.operands]) _ hx;have A:=(fW K (x:=y) (by simp[Op.operands]) hy).1;simp only[Slot.ok] at h;obtain⟨Q,cap,B,_,u⟩:=sE.1 h;obtain⟨C,D,G⟩:=dQ hz;rcases u with u |⟨b,off,V,rfl,L,M,N,O⟩
 ·subst u;simp at D
 obtain⟨R,c,T,rfl,H,I,_⟩:=qR O G;refine VU.value (w':=w) (v:= .pointer (some ⟨b,off+n.toNat*e.n,none⟩)) ?_ (XV.same (by simp only[Slot.ok];exact⟨b,_,c,rfl,L,M,by rw[<-H];exact N.sub,I⟩));have:=Cy (P:=F.P) (w:=w) (b:=b) (off:=off) (cap:=cap) (k:=k) hU hE C (by omega:n<(xs.length:Int));simp only[execOp,B,A];simp[this]
theorem Cz{n:Nat}(h:n<=9223372036854775807):Ea .i64 (n:Int):=by unfold Ea;simp only[IntKind.min,IntKind.max,IntKind.signed,IntKind.bits];simp;omega
theorem Gy{P:Program}{w:World}{U E:TypeId}{a:Option Addr}{n cap:Nat}{tt:TypeId}(hU:∀w,(underlying U).run P w= .ok (.slice E) w):(Builtin.len_ #[U] tt #[.slice a n cap]).run P w= .ok (.int .i64 n) w:=by
 simp[Builtin.len_,hU,goInt]
theorem uZ{α:Type}{e:Wr α}{xs:List α}{U E:TypeId}(hx:dB σ.g x=some (.v (Wr.sl e) xs))(hU:∀w,(underlying U).run F.P w= .ok (.slice E) w):
  JO F ⟨d,.call ⟨.builtin .len,#[x],#[U]⟩,ty,p,af,gd⟩ σ (.v (Wr.int .i64) xs.length) []:=by
 intro ρ S a w K;have h:=K.slot x (by simp[Op.operands,Call.operands]) _ hx;simp only[Slot.ok] at h;obtain⟨A,B,u,z,_⟩:=sE.1 h;refine VU.value (w':=w) (v:= .int .i64 xs.length) ?_ (XV.same (tF (Cz (by have:=z.2;omega)) ρ S w));simp[execOp,resolve,invoke,builtin,u,Gy hU]
theorem yM{xs:Array Operand}{ρ:Nat->LV}{S a w}(K:p3 σ xs ρ S a w)(hm:x∈xs){i:Nat}{en:VS}(hx:dB σ.g x=some (.ref i))(he:aW σ.d i=some en):
  a.eval x=(ρ i).v/\en.ok ρ S w (ρ i)/\∀b,qQ (ρ i) b->S b/\b<w.heap.size:=by
 have h:=K.slot x hm _ hx;simp only[Slot.ok] at h;exact⟨h.2,K.B9 x hm _ hx i (by simp[Slot.YJ]) _ he⟩
theorem Rn{α:Type}{e:Wr α}{xs:List α}{T U E:TypeId}{i:Nat}(hx:dB σ.g x=some (.ref i))(he:aW σ.d i=some (.arr T e xs))(hU:∀w,(underlying U).run F.P w= .ok (.slice E) w):
  JO F ⟨d,.call ⟨.builtin .len,#[x],#[U]⟩,ty,p,af,gd⟩ σ (.v (Wr.int .i64) xs.length) []:=by
 intro ρ S a w K;obtain⟨u,h,_⟩:=yM K (x:=x) (by simp[Op.operands,Call.operands]) hx he;rcases h with⟨rfl,h⟩|⟨b,z,A,B,C,h,_,_,_,_,D⟩
 ·refine VU.value (w':=w) (v:= .int .i64 0) ?_ (XV.same (tF (Cz (n:=0) (by simp)) ρ S w));simp[execOp,resolve,invoke,builtin,u,h,Gy hU]
 ·refine VU.value (w':=w) (v:= .int .i64 xs.length) ?_ (XV.same (tF (Cz (by omega)) ρ S w));simp[execOp,resolve,invoke,builtin,u,h,Gy hU]
end
end Go.Sw
namespace Go.Sw
open Go Go.RowKit
mutual
def Slot.map(r:Nat->Nat):Slot->Slot
 | .v e x=> .v e x
 | .ref i=> .ref (r i)
 | .ptr i off=> .ptr (r i) off
 | .fg i off k n=> .fg (r i) off k n
 | .el i k n off=> .el (r i) k n off
 | .w8 i off h n cap=> .w8 (r i) off h n cap
 | .mq i off n cap=> .mq (r i) off n cap
 | .sub i off n=> .sub (r i) off n
 | .YA e x=> .YA e x
 | .ZT g cap=> .ZT g (fK r cap)
 | .top=> .top
 | .agg l=> .agg (fK r l)
 | .WL l=> .WL (fK r l)
def fK(r:Nat->Nat):List Slot->List Slot
 | []=>[]
 |s::l=>s.map r::fK r l
end
def VS.map(r:Nat->Nat):VS->VS
 | .box T l h=> .box T (fK r l) h
 | .arr T e xs=> .arr T e xs
 | .mp e f m=> .mp e f m
 | .dp D x u=> .dp D x (u.map r)
section
variable {ρ:Nat->LV}{S:Nat->Prop}{w:World}{r:Nat->Nat}
mutual
theorem AE:∀(s:Slot) (cs:List Value),(s.map r).ZD ρ S w cs↔s.ZD (fun i=>ρ (r i)) S w cs
 | .v e x,cs=>by simp only[Slot.map,Slot.ZD]
 | .ref i,cs=>by simp only[Slot.map,Slot.ZD]
 | .ptr i off,cs=>by simp only[Slot.map,Slot.ZD]
 | .fg i off k n,cs=>by simp only[Slot.map,Slot.ZD]
 | .el i k n off,cs=>by simp only[Slot.map,Slot.ZD]
 | .w8 i off h n cap,cs=>by simp only[Slot.map,Slot.ZD]
 | .mq i off n cap,cs=>by simp only[Slot.map,Slot.ZD]
 | .sub i off n,cs=>by simp only[Slot.map,Slot.ZD]
 | .YA e x,cs=>by simp only[Slot.map,Slot.ZD]
 | .ZT g cap,cs=>by simp only[Slot.map,Slot.ZD,Lc cap]
 | .top,cs=>by simp only[Slot.map,Slot.ZD]
 | .agg l,cs=>by simp only[Slot.map,Slot.ZD]
 | .WL l,cs=>by simp only[Slot.map,Slot.ZD]
theorem Lc:∀(l:List Slot) (vs:List Value),aV ρ S w (fK r l) vs↔aV (fun i=>ρ (r i)) S w l vs
 | [],vs=>by simp only[fK,aV]
 |s::l,vs=>by simp only[fK,aV,Ly s,Lc l]
theorem Ro:∀(l:List Slot) (vs:List Value),bN ρ S w (fK r l) vs↔bN (fun i=>ρ (r i)) S w l vs
 | [],vs=>by simp only[fK,bN]
 |s::l,vs=>by simp only[fK,bN,AE s,Ro l]
theorem Ly:∀(s:Slot) (u:Value),(s.map r).ok ρ S w u↔s.ok (fun i=>ρ (r i)) S w u
 | .v e x,h=>by simp only[Slot.map,Slot.ok]
 | .ref i,h=>by simp only[Slot.map,Slot.ok]
 | .ptr i off,h=>by simp only[Slot.map,Slot.ok]
 | .fg i off k n,h=>by simp only[Slot.map,Slot.ok]
 | .el i k n off,h=>by simp only[Slot.map,Slot.ok]
 | .w8 i off z n cap,h=>by simp only[Slot.map,Slot.ok]
 | .mq i off n cap,h=>by simp only[Slot.map,Slot.ok]
 | .sub i off n,h=>by simp only[Slot.map,Slot.ok]
 | .YA e x,h=>by simp only[Slot.map,Slot.ok]
 | .ZT g cap,h=>by simp only[Slot.map,Slot.ok,Lc cap]
 | .top,h=>by simp only[Slot.map,Slot.ok]
 | .agg l,h=>by simp only[Slot.map,Slot.ok,Ro l]
 | .WL l,h=>by simp only[Slot.map,Slot.ok,Lc l]
end
theorem Gz(en:VS)(u:LV):(en.map r).ok ρ S w u↔en.ok (fun i=>ρ (r i)) S w u:=by
 cases en with
 |box T l h=>simp only[VS.map,VS.ok,Ro]
 |arr T e xs=>simp only[VS.map,VS.ok]
 |mp e f m=>simp only[VS.map,VS.ok]
 |dp D x z=>simp only[VS.map,VS.ok,aEy,Function.comp_def]
end
def Lz(r:Nat->Nat):List (Nat×VS)->List (Nat×VS)
 | []=>[]
 | (i,h)::l=>(r i,h.map r)::Lz r l
theorem xD(k:Nat):∀(l:List (Nat×VS)) (j:Nat) (en:VS),aW (Lz (·+k) l) j=some en->∃i en',j=i+k/\aW l i=some en'/\en=en'.map (·+k)
 | [],j,en,h=>by simp[Lz,aW] at h
 | (i,en')::l,j,en,h=>by
  simp only[Lz,aW] at h;cases hb:Nat.beq (i+k) j with
  |true=>
   have:=w9 hb;rw[hb] at h;simp at h;exact⟨i,en',this.symm,by simp[aW],h.symm⟩
  |false=>
   rw[hb] at h;obtain⟨u,A,z,B,C⟩:=xD k l j en (by simpa using h);refine⟨u,A,z,?_,C⟩;have:Nat.beq i u=false:=by
    cases hc:Nat.beq i u with
    |false=>rfl
    |true=>have:=w9 hc;subst this;subst z;simp at hb
   simp only[aW,this];exact B
theorem xI(k:Nat):∀(l:List (Nat×VS)) (i:Nat) (en:VS),aW l i=some en->aW (Lz (·+k) l) (i+k)=some (en.map (·+k))
 | [],i,en,h=>by simp[aW] at h
 | (u,en')::l,i,en,h=>by
  simp only[aW] at h;simp only[Lz,aW];cases hb:Nat.beq u i with
  |true=>
   have:=w9 hb;subst this;rw[hb] at h;simp at h;subst h;simp
  |false=>
   rw[hb] at h;have z:u≠i:=fun e=>by subst e;simp at hb
   have:Nat.beq (u+k) (i+k)=false:=by
    cases hc:Nat.beq (u+k) (i+k) with
    |false=>rfl
    |true=>have:=w9 hc;omega
   rw[this];exact xI k l i en (by simpa using h)
theorem XV.shift{ρ:Nat->LV}{S:Nat->Prop}{w w':World}{res:Slot}{new:List (Nat×VS)}{v:Value}(k:Nat)(YO:lE res new=true)(h:XV ρ S w res new v w'):
  XV ρ S w (res.map (·+k)) (Lz (·+k) new) v w':=by
 obtain⟨ρ',V,O,P,H⟩:=h;simp only[lE,E7,o7] at YO;let E:Nat->LV:=fun j=>if k<=j/\(aW new (j - k)).isSome=true then ρ' (j - k) else ρ j
 have C:∀i,(aW new i).isSome=true->E (i+k)=ρ' i:=fun i u=>by simp[E,u]
 have L:∀b,Un S E (Lz (·+k) new) b↔Un S ρ' new b:=by
  intro b;constructor
  ·rintro (h |⟨j,A,B,z⟩)
   ·exact .inl h
   ·obtain⟨i,D,rfl,u,_⟩:=xD k new j A B;rw[C i (by rw[u];rfl)] at z;exact .inr ⟨i,D,u,z⟩
  ·rintro (h |⟨i,A,u,z⟩)
   ·exact .inl h
   ·exact .inr ⟨i+k,_,xI k new i A u,by rw[C i (by rw[u];rfl)];exact z⟩
 have I:Ext (Un S ρ' new) (Un S E (Lz (·+k) new)) w' w':=⟨YQ _,fun b _ z=>⟨rfl,fun h=>z ((L b).1 h)⟩⟩
 refine⟨E,fun j B=>?_,O,?_,⟨fun j A B=>?_,fun j A b B z=>?_,fun j M A D b B N z K=>?_⟩⟩
 ·have:¬(k<=j/\(aW new (j - k)).isSome=true):=by
   rintro⟨T,U⟩;obtain⟨A,Q⟩:=Option.isSome_iff_exists.1 U;have:=xI k new (j - k) A Q;rw[Nat.sub_add_cancel T,B] at this;cases this
  simp only[E,WM this]
 ·rw[Ly];exact Slot.VP res v P I (fun i u=>congrArg LV.v (C i (YO.1 i u)))
 ·obtain⟨i,D,rfl,u,rfl⟩:=xD k new j A B;rw[Gz,C i (by rw[u];rfl)];exact VS.VP (H.own i D u) I (fun F G=>congrArg LV.v (C F (YO.2 _ (mQ u) F G))) (fun _ _=>rfl)
 ·obtain⟨i,D,rfl,u,rfl⟩:=xD k new j A B;rw[C i (by rw[u];rfl)] at z;exact H.fresh i D b u z
 ·obtain⟨i,e,rfl,u,rfl⟩:=xD k new j A B;obtain⟨F,R,rfl,G,rfl⟩:=xD k new M D N;rw[C i (by rw[u];rfl)] at z;rw[C F (by rw[G];rfl)] at K;rw[H.inj i F e R b u G z K]
def Frz{α β:Type}(D:DE α)(x:α)(e:Wr β)(z:β):Prop:=∀S S' w u,D.ok x S w u []->Ext S S' w w->(∀b,qQ u b->¬S' b)->e.ok z S' w [u.v]/\e.pk [u.v]=u.v
def RT(en en':VS):Prop:=en'.YJ=[]/\∀ρ S w u,en.ok ρ S w u->en'.ok ρ S w u
mutual
inductive bc (σ:AS) (r:Nat->Nat) (ls:List Nat):Slot->Slot->Prop
 |same {s:Slot}:bc σ r ls (s.map r) s
 | I4 {α:Type} {j:Nat} {T:TypeId} {e:Wr α} {xs:List α}:aW σ.d j=some (.arr T e xs)->ls.all (fun i=> !Nat.beq (r i) j)=true->bc σ r ls (.ref j) (.v (Wr.sl e) xs)
 |agg {l l':List Slot}:W5 σ r ls l l'->bc σ r ls (.agg l) (.agg l')
 |pack {α:Type} {l l':List Slot} {e:Wr α} {z:α}:W5 σ r ls l l'->M5 l' e z->e.agg=true->bc σ r ls (.agg l) (.v e z)
 |s8 {α:Type} {j:Nat} {T:TypeId} {l l':List Slot} {pb:Option Nat} {e:Wr α} {z:α}:aW σ.d j=some (.box T l pb)->ls.all (fun i=> !Nat.beq (r i) j)=true->W5 σ r ls l l'->M5 l' e z->bc σ r ls (.ptr j 0) (.YA e z)
 | ZT {g:Nat} {l l':List Slot}:W5 σ r ls l l'->bc σ r ls (.ZT g l) (.ZT g l')
 |aJm {α β:Type} {j:Nat} {D:DE α} {x:α} {e:Wr β} {z:β}:aW σ.d j=some (.dp D x [])->ls.all (fun i=> !Nat.beq (r i) j)=true->Frz D x e z->bc σ r ls (.ref j) (.v e z)
 |enc {α β:Type} {e:Wr α} {f:Wr β} {x:α} {y:β}:(∀S w cs,e.ok x S w cs->f.ok y S w cs)->(∀cs,e.pk cs=f.pk cs)->bc σ r ls (.v e x) (.v f y)
inductive W5 (σ:AS) (r:Nat->Nat) (ls:List Nat):List Slot->List Slot->Prop
 |nil:W5 σ r ls [] []
 |cons {s s':Slot} {l l':List Slot}:bc σ r ls s s'->W5 σ r ls l l'->W5 σ r ls (s::l) (s'::l')
end
inductive ae (σ:AS) (r:Nat->Nat) (ls:List Nat):List (Nat×Slot)->Prop
 |nil:ae σ r ls []
 |cons {t:Nat} {s s':Slot} {g:List (Nat×Slot)}:lk σ.g t=some s->bc σ r ls s s'->ae σ r ls g->ae σ r ls ((t,s')::g)
inductive E9 (σ:AS) (r:Nat->Nat) (ls:List Nat):List (Nat×VS)->Prop
 |nil:E9 σ r ls []
 |box {i:Nat} {T:TypeId} {l l':List Slot} {pb:Option Nat} {d:List (Nat×VS)}:aW σ.d (r i)=some (.box T l pb)->W5 σ r ls l l'->E9 σ r ls d->E9 σ r ls ((i,.box T l' pb)::d)
 |aQo {i:Nat} {T:TypeId} {l l':List Slot} {pb:Option Nat} {d:List (Nat×VS)}:aW σ.d (r i)=some (.box T l pb)->W5 σ r ls l l'->E9 σ r ls d->E9 σ r ls ((i,.box T l' none)::d)
 |arr {α:Type} {i:Nat} {T:TypeId} {e:Wr α} {xs:List α} {d:List (Nat×VS)}:aW σ.d (r i)=some (.arr T e xs)->E9 σ r ls d->E9 σ r ls ((i,.arr T e xs)::d)
 |mp {α β:Type} {i:Nat} {e:Wr α} {f:Wr β} {m:List (α×β)} {d:List (Nat×VS)}:aW σ.d (r i)=some (.mp e f m)->E9 σ r ls d->E9 σ r ls ((i,.mp e f m)::d)
 |dp {α:Type} {i:Nat} {D:DE α} {x:α} {l:List Nat} {d:List (Nat×VS)}:aW σ.d (r i)=some (.dp D x (l.map r))->E9 σ r ls d->E9 σ r ls ((i,.dp D x l)::d)
 |cv {i:Nat} {en en':VS} {d:List (Nat×VS)}:aW σ.d (r i)=some en->RT en en'->E9 σ r ls d->E9 σ r ls ((i,en')::d)
def Rp(r:Nat->Nat):List Nat->Bool
 | []=>true
 |i::l=>l.all (fun j=> !Nat.beq (r j) (r i)) && Rp r l
theorem Ps{r:Nat->Nat}:∀{l:List Nat},Rp r l=true->∀i∈l,∀j∈l,r i=r j->i=j
 | [],_,i,A,_,_,_=>by simp at A
 |x::l,h,i,A,j,E,B=>by
  simp only[Rp,E7,o7] at h;obtain⟨C,F⟩:=h;rcases o6.1 A with e | D
  ·rcases o6.1 E with u | z
   ·rw[e,u]
   ·have:=C j z;rw[<-e,B] at this;simp at this
  ·rcases o6.1 E with u | z
   ·have:=C i D;rw[<-u,B] at this;simp at this
   ·exact Ps F i D j z B
section
variable {F:XG}{σ:AS}{pb:Option Nat}{r:Nat->Nat}{ls:List Nat}{ρ:Nat->LV}{w:World}{d':List (Nat×VS)}
theorem Rq{α:Type}{e:Wr α}{xs:List α}{T:TypeId}{ρ S S' w u}(h:(VS.arr T e xs).ok ρ S w u)(hE:Ext S S' w w)(hb:∀b,qQ u b->¬S' b):(Wr.sl e).ok xs S' w [u.v]:=by
 rcases h with⟨rfl,z⟩|⟨b,B,F,C,G,z,A,D,E,H,I⟩<;>rw[z]
 ·exact⟨none,0,rfl,by simp,.inl rfl⟩
 ·refine⟨_,B,rfl,⟨E,by omega⟩,.inr ⟨b,_,C,rfl,?_,hb b (.inl (by rw[z];rfl)),?_,Wr.VX D hE⟩⟩
  ·exact(WC.of_heap A).lt
  ·have:=(WC.of_heap A).sub;simpa using this
mutual
theorem bc.spec(hc:Core F σ.d ρ w)(hE:Ext (Un F.S0 ρ σ.d) (Un F.S0 (fun i=>ρ (r i)) d') w w)(hn:∀j en,aW σ.d j=some en->ls.all (fun i=> !Nat.beq (r i) j)=true->∀b,qQ (ρ j) b->¬Un F.S0 (fun i=>ρ (r i)) d' b):
  ∀{s s':Slot},bc σ r ls s s'->(∀u,s.ok ρ (Un F.S0 ρ σ.d) w u->s'.ok (fun i=>ρ (r i)) (Un F.S0 (fun i=>ρ (r i)) d') w u)/\
   (∀cs,s.ZD ρ (Un F.S0 ρ σ.d) w cs->s'.ZD (fun i=>ρ (r i)) (Un F.S0 (fun i=>ρ (r i)) d') w cs)
 |_,s',.same=>⟨fun u h=>Slot.VP s' u ((Ly s' u).1 h) hE (fun _ _=>rfl),fun cs h=>vL s' cs ((AE s' cs).1 h) hE (fun _ _=>rfl)⟩
 |_,_,.I4 (j:=j) z A=>by
  have C:=Rq (hc.own j _ z) hE (hn j _ z A);refine⟨fun u h=>?_,fun cs h=>?_⟩
  ·simp only[Slot.ok] at h ⊢;rw[h.2];exact⟨_,C,rfl⟩
  ·simp only[Slot.ZD] at h ⊢;rw[h.2];exact C
 |_,_,.agg B=>by
  refine⟨fun u h=>?_,fun cs h=>by simp[Slot.ZD] at h⟩;simp only[Slot.ok] at h ⊢;obtain⟨cs,z,A⟩:=h;exact⟨cs,z,(W5.spec hc hE hn B).1 cs A⟩
 |_,_,.pack B H O=>by
  refine⟨fun u h=>?_,fun cs h=>by simp[Slot.ZD] at h⟩;simp only[Slot.ok] at h ⊢;obtain⟨cs,z,A⟩:=h;exact⟨cs,(H _ _ _ cs).1 ((W5.spec hc hE hn B).1 cs A),by rw[z];simp[Wr.pk,O]⟩
 |_,_,.s8 (j:=j) z A B H=>by
  obtain⟨⟨b,cs,D,E,N⟩,_⟩:=hc.own j _ z;have I:=hn j _ z A b (.inl (by rw[D];rfl));have K:=(H _ _ _ cs).1 ((W5.spec hc hE hn B).1 cs N);have L:b<w.heap.size:=(zo.1 E).1;refine⟨fun u h=>?_,fun P h=>?_⟩
  ·simp only[Slot.ok] at h ⊢;refine⟨b,0,cs,?_,L,I,WC.of_heap E,K⟩;rw[h.2,D];rfl
  ·simp only[Slot.ZD] at h ⊢;refine⟨b,0,cs,?_,L,I,WC.of_heap E,K⟩;rw[h.2,D];rfl
 |_,_,.ZT B=>by
  refine⟨fun u h=>?_,fun cs h=>?_⟩
  ·simp only[Slot.ok] at h ⊢;obtain⟨vs,z,A⟩:=h;exact⟨vs,z,(W5.spec hc hE hn B).2 vs A⟩
  ·simp only[Slot.ZD] at h ⊢;obtain⟨vs,z,A⟩:=h;exact⟨vs,z,(W5.spec hc hE hn B).2 vs A⟩
 |_,_,.aJm (j:=j) z A hf=>by
  obtain⟨C,G⟩:=hf _ _ _ _ (hc.own j _ z) hE (hn j _ z A);refine⟨fun u h=>?_,fun cs h=>?_⟩
  ·simp only[Slot.ok] at h ⊢;rw[h.2];exact⟨_,C,G.symm⟩
  ·simp only[Slot.ZD] at h ⊢;rw[h.2];exact C
 |_,_,.enc (f:=f) h G=>by
  refine⟨fun u M=>?_,fun cs hc=>?_⟩
  ·simp only[Slot.ok] at M ⊢;obtain⟨cs,z,A⟩:=M;exact gS ⟨cs,h _ _ _ z,by rw[A,G]⟩ hE
  ·simp only[Slot.ZD] at hc ⊢;exact f.mono (h _ _ _ hc) hE
theorem W5.spec(hc:Core F σ.d ρ w)(hE:Ext (Un F.S0 ρ σ.d) (Un F.S0 (fun i=>ρ (r i)) d') w w)(hn:∀j en,aW σ.d j=some en->ls.all (fun i=> !Nat.beq (r i) j)=true->∀b,qQ (ρ j) b->¬Un F.S0 (fun i=>ρ (r i)) d' b):
  ∀{l l':List Slot},W5 σ r ls l l'->(∀cs,bN ρ (Un F.S0 ρ σ.d) w l cs->bN (fun i=>ρ (r i)) (Un F.S0 (fun i=>ρ (r i)) d') w l' cs)/\(∀vs,aV ρ (Un F.S0 ρ σ.d) w l vs->aV (fun i=>ρ (r i)) (Un F.S0 (fun i=>ρ (r i)) d') w l' vs)
 |_,_,.nil=>⟨fun cs h=>h,fun vs h=>h⟩
 |_,_,.cons D E=>⟨fun cs h=>by
  simp only[bN] at h ⊢;obtain⟨c,d,z,A,B⟩:=h;exact⟨c,d,z,(bc.spec hc hE hn D).2 c A,(W5.spec hc hE hn E).1 d B⟩,fun vs h=>by
  simp only[aV] at h ⊢;obtain⟨u,C,z,A,B⟩:=h
  exact⟨u,C,z,(bc.spec hc hE hn D).1 u A,(W5.spec hc hE hn E).2 C B⟩⟩
end
theorem ae.spec{g:List (Nat×Slot)}(h:ae σ r ls g):∀t s',lk g t=some s'->∃s,lk σ.g t=some s/\bc σ r ls s s':=by
 induction h with
 |nil=>intro t s h;simp[lk] at h
 |cons z A _ B=>
  rename_i u C D E _;intro t s h;simp only[lk] at h;cases hb:Nat.beq u t with
  |true=>have:=w9 hb;subst this;rw[hb] at h;simp at h;subst h;exact⟨_,z,A⟩
  |false=>rw[hb] at h;exact B t s h
theorem E9.spec{d:List (Nat×VS)}(h:E9 σ r ls d):∀i en',aW d i=some en'->(∃T l l' pb pb',aW σ.d (r i)=some (.box T l pb)/\en'= .box T l' pb'/\(∀c,pb'=some c->pb=some c)/\W5 σ r ls l l')\/∃en,aW σ.d (r i)=some en/\∀ρ S S' w u,en.ok ρ S w u->Ext S S' w w->en'.ok (fun i=>ρ (r i)) S' w u:=by
 induction h with
 |nil=>intro t s h;simp[aW] at h
 |box A G _ B=>
  rename_i z T l l' pb F _;intro t s h;simp only[aW] at h;cases hb:Nat.beq z t with
  |true=>have:=w9 hb;subst this;rw[hb] at h;simp at h;subst h;exact .inl ⟨T,l,l',pb,pb,A,rfl,fun _ h=>h,G⟩
  |false=>rw[hb] at h;exact B t s h
 |aQo A G _ B=>
  rename_i z T l l' pb F _;intro t s h;simp only[aW] at h;cases hb:Nat.beq z t with
  |true=>have:=w9 hb;subst this;rw[hb] at h;simp at h;subst h;exact .inl ⟨T,l,l',pb,none,A,rfl,(fun _ h=>(by cases h)),G⟩
  |false=>rw[hb] at h;exact B t s h
 |arr A _ B=>
  rename_i α z T e xs F _;intro t s h;simp only[aW] at h;cases hb:Nat.beq z t with
  |true=>
   have:=w9 hb;subst this;rw[hb] at h;simp at h;subst h;exact .inr ⟨_,A,fun ρ S S' w u h C=>VS.VP h C (fun _ E=>by simp[VS.YJ] at E) (fun _ _=>rfl)⟩
  |false=>rw[hb] at h;exact B t s h
 |mp A _ B=>
  rename_i α β z e f m F _;intro t s h;simp only[aW] at h;cases hb:Nat.beq z t with
  |true=>
   have:=w9 hb;subst this;rw[hb] at h;simp at h;subst h;exact .inr ⟨_,A,fun ρ S S' w u h C=>VS.VP h C (fun _ E=>by simp[VS.YJ] at E) (fun _ _=>rfl)⟩
  |false=>rw[hb] at h;exact B t s h
 |dp A _ B=>
  rename_i α z D x l F _;intro t s h;simp only[aW] at h;cases hb:Nat.beq z t with
  |true=>
   have:=w9 hb;subst this;rw[hb] at h;simp at h;subst h;refine .inr ⟨_,A,fun ρ S S' w u h C=>?_⟩;have:=D.mono h C (fun _ _=>rfl);simp only[VS.ok,aEy,Function.comp_def] at this ⊢;exact this
  |false=>rw[hb] at h;exact B t s h
 |cv A H _ B=>
  rename_i z en en' F _;intro t s h;simp only[aW] at h;cases hb:Nat.beq z t with
  |true=>
   have:=w9 hb;subst this;rw[hb] at h;simp at h;subst h;exact .inr ⟨_,A,fun ρ S S' w u h C=>VS.VP (H.2 _ _ _ _ h) C (fun _ E=>by rw[H.1] at E;simp at E) (fun _ _=>rfl)⟩
  |false=>rw[hb] at h;exact B t s h
theorem Sub.mk{σ':AS}(r:Nat->Nat)(hg:ae σ r (σ'.d.map (·.1)) σ'.g)(hd:E9 σ r (σ'.d.map (·.1)) σ'.d)(hi:Rp r (σ'.d.map (·.1))=true):Sub F σ σ':=by
 rintro a w ⟨⟨ρ,z,hs⟩,hz,YX⟩;have L:=hd.spec;have E:∀i u,aW σ'.d i=some u->∃ZA,aW σ.d (r i)=some ZA:=fun i u h=>by
  rcases L i u h with⟨T,l,l',pb,_,A,_⟩|⟨_,A,_⟩
  ·exact⟨_,A⟩
  ·exact⟨_,A⟩
 have H:∀i u,aW σ'.d i=some u->i∈σ'.d.map (·.1):=fun i u h=>bq.2 ⟨_,mQ h,rfl⟩;have Q:∀b,Un F.S0 (fun i=>ρ (r i)) σ'.d b->Un F.S0 ρ σ.d b:=by
  rintro b (h |⟨i,u,A,D⟩)
  ·exact .inl h
  ·obtain⟨ZA,C⟩:=E i u A;exact .inr ⟨r i,ZA,C,D⟩
 have I:Ext (Un F.S0 ρ σ.d) (Un F.S0 (fun i=>ρ (r i)) σ'.d) w w:=⟨YQ _,fun b _ B=>⟨rfl,fun h=>B (Q b h)⟩⟩
 have M:∀j u,aW σ.d j=some u->(σ'.d.map (·.1)).all (fun i=> !Nat.beq (r i) j)=true->∀b,qQ (ρ j) b->¬Un F.S0 (fun i=>ρ (r i)) σ'.d b:=by
  intro j u K R b B S;rcases S with h |⟨i,G,A,D⟩
  ·have A:=(z.fresh j u b K B).1;exact absurd h (z.apart j u b K B)
  ·obtain⟨ZA,C⟩:=E i G A;have:=z.inj j (r i) u ZA b K C B D;have N:=o7.1 R i (H i G A);rw[this] at N;simp at N
 refine⟨⟨fun i=>ρ (r i),⟨z.low,z.size,z.frame,z.os,z.tape,z.output,?_,?_,?_,?_⟩,?_⟩,hz,YX⟩
 ·intro i u h;rcases L i u h with⟨T,l,l',pb,aa,A,rfl,h0,D⟩|⟨ZA,A,D⟩
  ·obtain⟨⟨b,P,k1,k2,k3⟩,k4⟩:=z.own _ _ A;exact⟨⟨b,P,k1,k2,(W5.spec z I M D).1 P k3⟩,fun c O8=>k4 c (h0 c O8)⟩
  ·exact D _ _ _ _ _ (z.own _ _ A) I
 ·intro i u b h B;obtain⟨ZA,C⟩:=E i u h;exact z.fresh (r i) ZA b C B
 ·intro i j u G b h O B U;obtain⟨ZA,C⟩:=E i u h;obtain⟨cw,h4⟩:=E j G O;exact Ps hi i (H i u h) j (H j G O) (z.inj _ _ _ _ b C h4 B U)
 ·intro i u b h B;obtain⟨ZA,C⟩:=E i u h;exact z.apart (r i) ZA b C B
 ·intro t V X;obtain⟨s,A,D⟩:=hg.spec t V X;exact(bc.spec z I M D).1 _ (hs t s A)
end
section
variable {F:XG}{σ:AS}{pb:Option Nat}{d:Option Tmp}{ty:TypeId}{p:String}{af:Array Edge}{gd:Option (Nat×Bool)}
def Arg(σ:AS)(ZI:Bool)(x:Operand)(s:Slot):Prop:=∀ρ S a w,p3 σ #[x] ρ S a w->s.ok ρ (if ZI then fun _=>False else S) w (a.eval x)
theorem zQ(S:Nat->Prop)(w:World)(b:Bool):Ext S (if b then fun _=>False else S) w w:=by
 cases b
 ·exact Ext.refl _ _
 ·exact⟨YQ _,fun _ _ _=>⟨rfl,fun h=>h⟩⟩
theorem Arg.dir{ZI:Bool}{x:Operand}{s:Slot}(h:dB σ.g x=some s):Arg σ ZI x s:=fun ρ S a w K=>
 Slot.VP s _ (K.slot x (by simp) s h) (zQ S w ZI) (fun _ _=>rfl)
theorem Arg.nq{ZI:Bool}{α:Type}(e:Wr α):Arg σ ZI (.const (.slice none 0 0)) (.v (Wr.sl e) []):=fun ρ _ _ w _=>Ua e ρ _ w
theorem Arg.aMj{ZI:Bool}(T:TypeId):Arg σ ZI (.const .nilIface) (.v (Wr.err T) none):=fun ρ _ _ w _=>Pr T ρ _ w
theorem Arg.ref{α:Type}{x:Operand}{i:Nat}{T:TypeId}{e:Wr α}{xs:List α}(h:dB σ.g x=some (.ref i))(he:aW σ.d i=some (.arr T e xs)):Arg σ true x (.v (Wr.sl e) xs):=by
 intro ρ S a w K;obtain⟨u,z,_⟩:=yM K (x:=x) (by simp) h he;rw[u];simp only[Slot.ok];exact⟨_,Rq z (zQ S w true) (fun _ _ h=>h),rfl⟩
inductive im (σ:AS) (ZI:Bool):List Slot->List Slot->Prop
 |nil:im σ ZI [] []
 |same {s:Slot} {l l':List Slot}:im σ ZI l l'->im σ ZI (s::l) (s::l')
 |ref {α:Type} {i:Nat} {T:TypeId} {e:Wr α} {xs:List α} {l l':List Slot}:ZI=true->aW σ.d i=some (.arr T e xs)->im σ ZI l l'->im σ ZI (.ref i::l) (.v (Wr.sl e) xs::l')
theorem im.spec{ZI:Bool}{l l':List Slot}(h:im σ ZI l l'){ρ S w}(kc:∀i∈eA l,∀en,aW σ.d i=some en->en.ok ρ S w (ρ i)):
  ∀cs,bN ρ S w l cs->bN ρ (if ZI then fun _=>False else S) w l' cs:=by
 induction h with
 |nil=>intro cs h;exact h
 |same _ C=>
  rename_i s l l' _;intro cs h;simp only[bN] at h ⊢;obtain⟨c,d,z,A,B⟩:=h;exact⟨c,d,z,vL s c A (zQ S w ZI) (fun _ _=>rfl),C (fun i u=>kc i (by simp[eA,u])) d B⟩
 |ref D E _ C=>
  rename_i α i T e xs l l' _;intro cs h;simp only[bN,Slot.ZD] at h ⊢;obtain⟨c,d,z,A,B⟩:=h;refine⟨c,d,z,?_,C (fun i u=>kc i (by simp[eA,u])) d B⟩;rw[A.2];subst D;exact Rq (kc i (by simp[eA,Slot.YJ]) _ E) (zQ S w true) (fun _ _ h=>h)
theorem Arg.agg{ZI:Bool}{α:Type}{x:Operand}{l l':List Slot}{e:Wr α}{z:α}(h:dB σ.g x=some (.agg l))(hl:im σ ZI l l')(hs:M5 l' e z)(ha:e.agg=true):Arg σ ZI x (.v e z):=by
 intro ρ S a w K;have A:=K.slot x (by simp) _ h;simp only[Slot.ok] at A ⊢;obtain⟨u,E,F⟩:=A;refine⟨u,(hs _ _ _ u).1 (hl.spec (fun i B C D=>(K.B9 x (by simp) _ h i (by simpa[Slot.YJ] using B) C D).1) u F),?_⟩;rw[E];simp[Wr.pk,ha]
inductive P8 (σ:AS) (ZI:Bool):List Operand->List Slot->Prop
 |nil:P8 σ ZI [] []
 |cons {x:Operand} {s:Slot} {xs:List Operand} {l:List Slot}:Arg σ ZI x s->P8 σ ZI xs l->P8 σ ZI (x::xs) (s::l)
theorem P8.spec{ZI:Bool}{xs:List Operand}{l:List Slot}(h:P8 σ ZI xs l){ρ S a w}{ys:Array Operand}(bm:∀x∈xs,x∈ys)(K:p3 σ ys ρ S a w):aV ρ (if ZI then fun _=>False else S) w l (xs.map a.eval):=by
 induction h with
 |nil=>rfl
 |cons z _ A=>
  rename_i x s xs l _;simp only[D8,aV];refine⟨_,_,rfl,z ρ S a w ⟨K.low,fun y u s h=>?_,fun y u s h=>?_⟩,A fun y u=>bm y (Z6 _ u)⟩
  ·have:y=x:=by simpa using u
   subst this;exact K.slot y (bm y (by simp)) s h
  ·have:y=x:=by simpa using u
   subst this;exact K.B9 y (bm y (by simp)) s h
theorem uA{P:Program}{f:FuncId}{xs:List Operand}{ts:Array TypeId}{a:Act}{w:World}(XX:∀args w,(callFunc f args).run P w= .ok (.enter f args) w):
  (execOp a.eval ⟨d,.call ⟨.value (.func f),xs.toArray,ts⟩,ty,p,af,gd⟩).run P w= .ok (.enter f (xs.map a.eval).toArray) w:=by
 simp[execOp,resolve,Act.eval,Deferred.ofValue,invoke,XX]
theorem fM{f:FuncId}{xs:List Operand}{ts:Array TypeId}{ss:List Slot}{res:Slot}{new:List (Nat×VS)}(k:Nat)(hc:WE F.P f ss res new)(XX:∀args w,(callFunc f args).run F.P w= .ok (.enter f args) w)
  (ha:P8 σ false xs ss) (YO:lE res new=true):
  JO F ⟨d,.call ⟨.value (.func f),xs.toArray,ts⟩,ty,p,af,gd⟩ σ (res.map (·+k)) (Lz (·+k) new):=by
 intro ρ S a w K;refine VU.enter (uA XX) ?_;have:=ha.spec (ys:=(Op.call ⟨.value (.func f),xs.toArray,ts⟩).operands) (by intro x u;simp[Op.operands,Call.operands,u]) K;refine(hc S w _ ρ K.low this).mono ?_;rintro e z ⟨v,rfl,h⟩;exact⟨v,rfl,h.shift k YO⟩
def XO(s:Slot):Prop:=∀ρ S S' w u,s.ok ρ S w u->s.ok ρ S' w u
def YI(new:List (Nat×VS)):Prop:=∀i en,aW new i=some en->∀ρ S S' w u,en.ok ρ S w u->en.ok ρ S' w u
theorem bc.of_eq{σ:AS}{r:Nat->Nat}{ls:List Nat}{s s':Slot}(h:s=s'.map r):bc σ r ls s s':=by subst h;exact .same
theorem XO.v{α:Type}{e:Wr α}[YM e]{x:α}:XO (.v e x):=fun ρ S C w u h=>by
 simp only[Slot.ok] at h ⊢;obtain⟨z,A,B⟩:=h;exact⟨z,YM.flat A,B⟩
theorem XO.ref{i:Nat}:XO (.ref i):=fun ρ S z w u h=>by simpa only[Slot.ok] using h
inductive E0:List Slot->Prop
 |nil:E0 []
 |v {α:Type} {e:Wr α} [YM e] {x:α} {l}:E0 l->E0 (.v e x::l)
 |ref {i:Nat} {l}:E0 l->E0 (.ref i::l)
 |agg {l l':List Slot}:E0 l'->E0 l->E0 (.agg l'::l)
theorem E0.spec{l:List Slot}(h:E0 l):(∀ρ S S' w vs,aV ρ S w l vs->aV ρ S' w l vs)/\(∀ρ S S' w vs,bN ρ S w l vs->bN ρ S' w l vs):=by
 induction h with
 |nil=>exact⟨fun _ _ _ _ _ h=>h,fun _ _ _ _ _ h=>h⟩
 |v _ D=>
  refine⟨fun ρ S S' w vs h=>?_,fun ρ S S' w vs h=>?_⟩
  ·simp only[aV] at h ⊢;obtain⟨u,A,B,z,C⟩:=h;exact⟨u,A,B,XO.v ρ S S' w u z,D.1 ρ S S' w _ C⟩
  ·simp only[bN,Slot.ZD] at h ⊢;obtain⟨u,A,B,z,C⟩:=h;exact⟨u,A,B,YM.flat z,D.2 ρ S S' w _ C⟩
 |ref _ D=>
  refine⟨fun ρ S S' w vs h=>?_,fun ρ S S' w vs h=>?_⟩
  ·simp only[aV] at h ⊢;obtain⟨u,A,B,z,C⟩:=h;exact⟨u,A,B,XO.ref ρ S S' w u z,D.1 ρ S S' w _ C⟩
  ·simp only[bN,Slot.ZD] at h ⊢;obtain⟨u,A,B,z,C⟩:=h;exact⟨u,A,B,z,D.2 ρ S S' w _ C⟩
 |agg _ _ G D=>
  refine⟨fun ρ S S' w vs h=>?_,fun ρ S S' w vs h=>?_⟩
  ·simp only[aV,Slot.ok] at h ⊢;obtain⟨u,A,B,⟨E,z,F⟩,C⟩:=h;exact⟨u,A,B,⟨E,z,G.2 ρ S S' w _ F⟩,D.1 ρ S S' w _ C⟩
  ·simp only[bN,Slot.ZD] at h ⊢;obtain⟨u,A,B,z,C⟩:=h;exact z.elim
theorem XO.agg{l:List Slot}(h:E0 l):XO (.agg l):=fun ρ S z w u k=>by
 simp only[Slot.ok] at k ⊢;obtain⟨A,B,C⟩:=k;exact⟨A,B,h.spec.2 ρ S z w _ C⟩
theorem XO.WL{l:List Slot}(h:E0 l):XO (.WL l):=fun ρ S z w u k=>by
 simp only[Slot.ok] at k ⊢;obtain⟨A,B,C⟩:=k;exact⟨A,B,h.spec.1 ρ S z w _ C⟩
theorem YI.nil:YI []:=fun i u h=>by simp[aW] at h
theorem YI.arr{α:Type}{i:Nat}{T:TypeId}{e:Wr α}[YM e]{xs:List α}{r:List (Nat×VS)}(h:YI r):YI ((i,.arr T e xs)::r):=by
 intro j A z;simp only[aW] at z;cases hb:Nat.beq i j with
 |true=>
  rw[hb] at z;simp at z;subst z;intro ρ S S' w u h;rcases h with h |⟨b,B,C,D,E,F,G,H,I⟩
  ·exact .inl h
  ·exact .inr ⟨b,B,C,D,E,F,G,YM.YY H,I⟩
 |false=>rw[hb] at z;exact h j A z
theorem qU{f:FuncId}{xs:List Operand}{ts:Array TypeId}{ss:List Slot}{res:Slot}{new:List (Nat×VS)}(k:Nat)(hc:WE F.P f ss res new)(XX:∀args w,(callFunc f args).run F.P w= .ok (.enter f args) w)
  (ha:P8 σ true xs ss) (YO:lE res new=true) (hf:XO res) (hn:YI new):
  JO F ⟨d,.call ⟨.value (.func f),xs.toArray,ts⟩,ty,p,af,gd⟩ σ (res.map (·+k)) (Lz (·+k) new):=by
 intro ρ S a w K;refine VU.enter (uA XX) ?_;have:=ha.spec (ys:=(Op.call ⟨.value (.func f),xs.toArray,ts⟩).operands) (by intro x B;simp[Op.operands,Call.operands,B]) K;refine(hc (fun _=>False) w _ ρ (fun _ h=>h.elim) this).mono ?_;rintro e G ⟨v,rfl,h⟩;refine⟨v,rfl,XV.shift k YO ?_⟩;obtain⟨ρ',C,D,E,u⟩:=h;exact⟨ρ',C,D,hf _ _ _ _ _ E,⟨fun i z A=>hn i z A _ _ _ _ _ (u.own i z A),u.fresh,u.inj⟩⟩
end
end Go.Sw
namespace Go.Sw
open Go Go.RowKit
def iS(d:Option Tmp)(s:Slot)(g:List (Nat×Slot)):List (Nat×Slot):=match d with | some t=>(t,s)::g | none=>g
def rd:Operand->List Nat
 | .tmp t=>[t]
 |_=>[]
def looks(ops:Array Oper)(o:Oper):List Nat:=
 o.op.operands.toList.flatMap rd++(match o.guard with | some (g,_)=>((ops[g]?).bind (·.dst)).toList | none=>[])
def Ma(o:Oper):List Nat:=o.after.toList.filterMap fun e=>if Region.binds .any e then some e.on else none
def Da(ops:Array Oper):Bool:=(List.range ops.size).all fun i=>match ops[i]? with | none=>false | some o=>(Ma o).all fun j=>decide (j<i)
section
variable {F:XG}{ops:Array Oper}
def GH(ops:Array Oper)(L:Nat->Bool):Prop:=∀i o,L i=true->ops[i]? =some o->∀j∈Ma o,L j=true
theorem Un.congr{S:Nat->Prop}{ρ:Nat->LV}{d d':List (Nat×VS)}(h:∀l en,aW d l=some en↔aW d' l=some en):Un S ρ d=Un S ρ d':=by
 funext k;refine propext ⟨fun u=>?_,fun u=>?_⟩
 ·rcases u with u |⟨i,en,z,A⟩
  ·exact .inl u
  ·exact .inr ⟨i,en,(h i en).1 z,A⟩
 ·rcases u with u |⟨i,en,z,A⟩
  ·exact .inl u
  ·exact .inr ⟨i,en,(h i en).2 z,A⟩
theorem Core.congr{d d':List (Nat×VS)}{ρ:Nat->LV}{w:World}(h:∀l en,aW d l=some en↔aW d' l=some en)(hc:Core F d ρ w):Core F d' ρ w:=
 ⟨hc.low,hc.size,hc.frame,hc.os,hc.tape,hc.output,fun i en u=>by rw[<-Un.congr h];exact hc.own i en ((h i en).2 u),fun i en b u=>hc.fresh i en b ((h i en).2 u),fun i j en z b u A=>hc.inj i j en z b ((h i en).2 u) ((h j z).2 A),
  fun i en b u=>hc.apart i en b ((h i en).2 u)⟩
theorem Core.below{d:List (Nat×VS)}{ρ:Nat->LV}{w w':World}(hc:Core F d ρ w)(hb:Below w.heap.size w w'):Core F d ρ w'/\Ext (Un F.S0 ρ d) (Un F.S0 ρ d) w w':=by
 have A:Ext (Un F.S0 ρ d) (Un F.S0 ρ d) w w':=rJ hb fun _ _ h=>h
 exact⟨⟨hc.low,eh hc.size hb.size,fun k B C=>(hb.block k (R4 B hc.size)).trans (hc.frame k B C),hb.os.trans hc.os,hb.tape.trans hc.tape,hb.output.trans hc.output,
  fun i u h=>VS.VP (hc.own i u h) A (fun _ _=>rfl) (fun b z=>hb.block b (hc.fresh i u b h z).2),fun i u b h z=>⟨(hc.fresh i u b h z).1,R4 (hc.fresh i u b h z).2 hb.size⟩,hc.inj,hc.apart⟩,A⟩
theorem mG{g:List (Nat×Slot)}{t u:Nat}{s:Slot}:lk ((t,s)::g) u=if t=u then some s else lk g u:=by
 simp only[lk];cases hb:Nat.beq t u with
 |true=>have:=w9 hb;subst this;simp
 |false=>
  have:t≠u:=fun e=>by subst e;simp at hb
  simp[this]
theorem CO(m i:Nat)(L:Nat->Bool)(hi:i<m)(hL:L i=false):((List.range m).filter fun q=>q==i || L q).length=((List.range m).filter fun q=>L q).length+1:=by
 induction m with
 |zero=>omega
 |succ m z=>
  rw[List.range_succ,zq,zq,sM,sM];by_cases h:i=m
  ·subst h;have:((List.range i).filter fun q=>q==i || L q)=(List.range i).filter fun q=>L q:=by
    refine List.filter_congr fun q u=>?_;have:=kz.1 u;have:(q==i)=false:=by simp;omega
    simp[this]
   rw[this];simp[hL]
  ·rw[z (by omega)];have:(m==i)=false:=by simp;omega
   simp[aD4,this];split<;>simp<;>omega
end
end Go.Sw
namespace Go.Sw
open Go Go.RowKit
theorem uB{P:Program}{T:TypeId}{ti:TypeInfo}(h:∀w,(typeInfo T).run P w= .ok ti w):P.info? T=some ti:=by
 have:=h default;unfold typeInfo at this;simp only[Sem.run_bind,run_program,Result.andThen_ok] at this;cases hi:P.info? T with
 |none=>rw[hi] at this;simp at this
 |some i=>rw[hi] at this;simp at this;rw[this]
theorem qV{P:Program}{T:TypeId}{de:TypeDesc}(h:∀w,(underlying T).run P w= .ok de w):P.underlying T=some de:=by
 have:=h default;unfold underlying at this;simp only[Sem.run_bind,run_program,Result.andThen_ok] at this;cases hi:P.underlying T with
 |none=>rw[hi] at this;simp at this
 |some i=>rw[hi] at this;simp at this;rw[this]
theorem Ld{P:Program}{T:TypeId}{ti:TypeInfo}{n:Nat}(h:∀w,(typeInfo T).run P w= .ok ti w)(hs:∀w,(sizeOf T).run P w= .ok n w):ti.size=n:=by
 have:=hs default;unfold sizeOf at this;simp only[Sem.run_bind,h,Result.andThen_ok,Sem.run_pure,Result.ok.injEq,aEi] at this;exact this
structure ax (b:Nat) (w w':World):Prop where
 size:w'.heap.size=w.heap.size
 other:∀k,k≠b->w'.heap[k]? =w.heap[k]?
 os:w'.os=w.os
 tape:w'.tape=w.tape
 output:w'.output=w.output
theorem ax.setRow(w:World)(b:Nat)(cs:Array Value):ax b w (w.setRow b cs):=⟨by simp[World.setRow],fun k h=>setRow_other w b k cs h,rfl,rfl,rfl⟩
theorem cK{d:List (Nat×VS)}{t u:Nat}{s:VS}:aW ((t,s)::d) u=if t=u then some s else aW d u:=by
 simp only[aW];cases hb:Nat.beq t u with
 |true=>have:=w9 hb;subst this;simp
 |false=>
  have:t≠u:=fun e=>by subst e;simp at hb
  simp[this]
section
variable {F:XG}{σ:AS}
theorem Core.upd{d:List (Nat×VS)}{ρ:Nat->LV}{w w':World}{i b:Nat}{en en':VS}(hc:Core F d ρ w)(hi:aW d i=some en)(hb:qQ (ρ i) b)(hu:ax b w w')
  (G8:Ext (Un F.S0 ρ d) (Un F.S0 ρ d) w w'->en'.ok ρ (Un F.S0 ρ d) w' (ρ i)):Core F ((i,en')::d) ρ w'/\Ext (Un F.S0 ρ d) (Un F.S0 ρ ((i,en')::d)) w w':=by
 have I:∀k,Un F.S0 ρ ((i,en')::d) k↔Un F.S0 ρ d k:=by
  intro k;constructor
  ·rintro (h |⟨j,e,B,C⟩)
   ·exact .inl h
   ·rw[cK] at B;split at B
    ·rename_i u;subst u;exact .inr ⟨i,en,hi,C⟩
    ·exact .inr ⟨j,e,B,C⟩
  ·rintro (h |⟨j,e,B,C⟩)
   ·exact .inl h
   ·by_cases u:i=j
    ·subst u;exact .inr ⟨i,en',by rw[cK,WV rfl],C⟩
    ·exact .inr ⟨j,e,by rw[cK,WM u];exact B,C⟩
 have O:Un F.S0 ρ d b:= .inr ⟨i,en,hi,hb⟩;have G:Ext (Un F.S0 ρ d) (Un F.S0 ρ d) w w':=⟨by rw[hu.size];exact YQ _,fun k z A=>⟨hu.other k (fun e=>by subst e;exact A O),A⟩⟩
 have K:Ext (Un F.S0 ρ d) (Un F.S0 ρ ((i,en')::d)) w w':=⟨G.size,fun k z A=>⟨(G.H4 k z A).1,fun h=>A ((I k).1 h)⟩⟩
 have P:Ext (Un F.S0 ρ d) (Un F.S0 ρ ((i,en')::d)) w' w':=⟨YQ _,fun k z A=>⟨rfl,fun h=>A ((I k).1 h)⟩⟩
 have L:∀j e,aW ((i,en')::d) j=some e->(j=i/\e=en')\/(j≠i/\aW d j=some e):=by
  intro j e h;rw[cK] at h;split at h
  ·rename_i u;cases h;exact .inl ⟨u.symm,rfl⟩
  ·rename_i u;exact .inr ⟨fun e=>u e.symm,h⟩
 have E:∀j e,aW ((i,en')::d) j=some e->∃e',aW d j=some e':=fun j e h=>by
  rcases L j e h with⟨rfl,_⟩|⟨_,h⟩
  ·exact⟨en,hi⟩
  ·exact⟨e,h⟩
 refine⟨⟨hc.low,by rw[hu.size];exact hc.size,fun k z M=>?_,hu.os.trans hc.os,hu.tape.trans hc.tape,hu.output.trans hc.output,fun j e h=>?_,fun j e k h H=>?_,fun j N e e' k h D Q R=>?_,fun j e k h H=>?_⟩,K⟩
 ·have:k≠b:=fun e=>by
   subst e;rcases (hc.fresh i en k hi hb).1 with h | h
   ·omega
   ·exact M h
  rw[hu.other k this];exact hc.frame k z M
 ·rcases L j e h with⟨rfl,rfl⟩|⟨U,h⟩
  ·exact VS.VP (G8 G) P (fun _ _=>rfl) (fun _ _=>rfl)
  ·refine VS.VP (hc.own j e h) K (fun _ _=>rfl) (fun k z=>hu.other k fun e'=>U ?_);subst e';exact hc.inj j i e en k h hi z hb
 ·obtain⟨e',D⟩:=E j e h;rw[hu.size];exact hc.fresh j e' k D H
 ·obtain⟨S,B⟩:=E j e h;obtain⟨T,C⟩:=E N e' D;exact hc.inj j N S T k B C Q R
 ·obtain⟨e',D⟩:=E j e h;exact hc.apart j e' k D H
theorem pZ{o:Oper}{i:Nat}{en en':VS}(hi:aW σ.d i=some en)(hd:o.dst=none)
  (h:∀(ρ:Nat->LV) (a:Act) (w:World),Core F σ.d ρ w->(∀t s,lk σ.g t=some s->s.ok ρ (Un F.S0 ρ σ.d) w (a.tmps.getD t undef))->∃b w',qQ (ρ i) b/\ax b w w'/\(execOp a.eval o).run F.P w= .ok .skip w'/\
   (Ext (Un F.S0 ρ σ.d) (Un F.S0 ρ σ.d) w w'->en'.ok ρ (Un F.S0 ρ σ.d) w' (ρ i))):JM F o σ ⟨σ.g,(i,en')::σ.d⟩:=by
 rintro a w ⟨⟨ρ,u,z⟩,I,K⟩;obtain⟨b,w',B,C,D,E⟩:=h ρ a w u z;refine VU.skip D ?_;obtain⟨G,H⟩:=u.upd hi B C E;rw[hd];exact⟨⟨ρ,G,fun t s A=>Slot.VP s _ (z t s A) H (fun _ _=>rfl)⟩,I,K⟩
end
end Go.Sw
namespace Go.Sw
open Go Go.RowKit
section
variable {F:XG}{σ:AS}{pb:Option Nat}{s:Slot}{d:Option Tmp}{ty:TypeId}{p:String}{af:Array Edge}{gd:Option (Nat×Bool)}{x y:Operand}
theorem Jv{ρ:Nat->LV}{a:Act}{w:World}(hs:∀t s,lk σ.g t=some s->s.ok ρ (Un F.S0 ρ σ.d) w (a.tmps.getD t undef))(h:dB σ.g x=some s):s.ok ρ (Un F.S0 ρ σ.d) w (a.eval x):=by
 cases x with
 |tmp t=>exact hs t s h
 |const u=>exact(Lt h ρ _ w).1
 |global g=>cases h
 |func f=>cases h
theorem Ha{ρ S w}{s:Slot}{cs:List Value}(h:s.ZD ρ S w cs):∀v∈cs,s≠.top->v.oneCell'=true:=by
 intro v u C;cases s<;>simp only[Slot.ZD] at h
 case v e z=>exact e.cell h v u
 case ref i=>obtain⟨⟨a,l,c,A⟩|⟨a,A⟩,rfl⟩:=h<;>(simp at u;rw[u,A];rfl)
 case ptr i B=>obtain⟨⟨b,A⟩,rfl⟩:=h;simp at u;rw[u,A];rfl
 case fg i B k n=>obtain⟨⟨b,A⟩,rfl⟩:=h;simp at u;rw[u,A];rfl
 case el i k n B=>obtain⟨⟨b,o,l,c,A⟩,rfl⟩:=h;simp at u;rw[u,A];rfl
 case w8 i B lo n cap=>obtain⟨⟨b,A⟩,rfl⟩:=h;simp at u;rw[u,A];rfl
 case mq i B n cap=>obtain⟨⟨b,o,l,c,A⟩,rfl⟩:=h;simp at u;rw[u,A];rfl
 case sub i B n=>obtain⟨⟨a,l,c,A⟩,D,E,F,G,rfl⟩:=h;simp at u;rw[u,A];cases a<;>rfl
 case YA e z=>obtain⟨b,B,H,rfl,A⟩:=h;simp at u;rw[u];rfl
 case ZT g cap=>obtain⟨vs,rfl,A⟩:=h;simp at u;rw[u];rfl
 case top=>exact absurd rfl C
theorem lF{P:Program}{w:World}{U T:TypeId}{b off n:Nat}{v:Value}{a c e:List Value}(hS:∀w,(sizeOf U).run P w= .ok n w)(hn:v.cells.size=n)(C2:∀u∈v.cells.toList,u.oneCell'=true)
  (hb:w.heap[b]? =some (.cells (a++(c++e)).toArray T (0,0))) (gn:a.length=off) (hc:c.length=n):
  (storeVar U ⟨b,off,none⟩ v).run P w= .ok () (w.setRow b (a++(v.cells.toList++e)).toArray):=by
 unfold storeVar;simp only[Sem.run_bind,hS,Result.andThen_ok,hn,ne_eq,aC1,j5];have h:v.cells.toList.length=n:=by simpa using hn
 have:=run_storeCells_at P b off T v.cells.toList 0 _ w hb (by simp;omega) C2;simp only[aDh] at this;have z:(a++(c++e)).take off=a:=by rw[<-gn];exact ze
 have A:(a++(c++e)).drop (off+v.cells.toList.length)=e:=by
  rw[<-C9];have:off+v.cells.toList.length=(a++c).length:=by rw[sM,gn,h,hc]
  rw[this];exact qu
 rw[z,A] at this;simpa[C9] using this
theorem lG{P:Program}{a:Act}{w w':World}{U:TypeId}{ad:Addr}(h2:a.eval x= .pointer (some ad))(YF:(storeVar U ad (a.eval y)).run P w= .ok () w'):
  (execOp a.eval ⟨d,.store U x y,ty,p,af,gd⟩).run P w= .ok .skip w':=by
 simp only[execOp,h2,Instr.storeAt,Instr.sureAddr,Sem.run_bind,Sem.run_pure,Result.andThen_ok,YF]
theorem Uc{T U:TypeId}{l:List Slot}{i off n:Nat}{s0:Slot}(hx:dB σ.g x=some (.ptr i off))(he:aW σ.d i=some (.box T l pb))(ho:nJ l off=some s0)(hy:dB σ.g y=some s)(hp:s.plain=true)(q7:Nat.beq s.sz n=true)(J4:Nat.beq s0.sz n=true)
  (hS:∀w,(sizeOf U).run F.P w= .ok n w):JM F ⟨none,.store U x y,ty,p,af,gd⟩ σ ⟨σ.g,(i,.box T (nW l off s) pb)::σ.d⟩:=by
 replace q7:=w9 q7;replace J4:=w9 J4;refine pZ he rfl fun ρ a w z A=>?_;have K:=cI z A (Op.store U x y).operands;obtain⟨b,R,B,I,C,L⟩:=zP K (x:=x) (by simp[Op.operands]) hx he;have h:=qT hp (Jv A hy);obtain⟨M,c,N,rfl,rfl,O,Q⟩:=uY ho L;have D:∀u∈(a.eval y).cells.toList,u.oneCell'=true:=fun u G=>Ha h u G (fun e=>by subst e;cases hp);have E:=lF (P:=F.P) (w:=w) (U:=U) hS (by have:=nM h;simp only[aw] at this;omega) D C rfl (by rw[nM O];exact J4);refine⟨b,w.setRow b (M++((a.eval y).cells.toList++N)).toArray,.inl (by rw[B];rfl),ax.setRow w b _,?_,fun H=>?_⟩
 ·exact lG I E
 ·refine⟨⟨b,_,B,setRow_heap w b _ _ T _ C,?_⟩,(z.own i _ he).2⟩;exact fU _ _ (Q s _ h) H (fun _ _=>rfl)
theorem bS{α:Type}{e:Wr α}{z:α}{T U:TypeId}{l l':List Slot}{i:Nat}(hx:dB σ.g x=some (.ptr i 0))(he:aW σ.d i=some (.box T l pb))(hl:Nat.beq (l.map Slot.sz).sum e.n=true)(hy:dB σ.g y=some (.v e z))(V4:M5 l' e z)
  (hS:∀w,(sizeOf U).run F.P w= .ok e.n w):JM F ⟨none,.store U x y,ty,p,af,gd⟩ σ ⟨σ.g,(i,.box T l' pb)::σ.d⟩:=by
 replace hl:=w9 hl;refine pZ he rfl fun ρ a w D E=>?_;have K:=cI D E (Op.store U x y).operands;obtain⟨b,B,G,N,C,A⟩:=zP K (x:=x) (by simp[Op.operands]) hx he;have h:=qT (s:= .v e z) rfl (Jv E hy);simp only[Slot.ZD] at h;have H:B.length=e.n:=by
  rw[<-hl];clear hl hS hx he C K
  induction l generalizing B with
  |nil=>simp only[bN] at A;simp[A]
  |cons t l R=>
   simp only[bN] at A;obtain⟨c,d,rfl,O,Q⟩:=A;rw[sM,nM O,R d Q];simp
 have I:=lF (P:=F.P) (w:=w) (U:=U) (a:=[]) (c:=B) (e:=[]) hS (by have:=e.len h;simp only[aw] at this;omega) (fun u L=>e.cell h u L) (by simpa using C) rfl H;refine⟨b,w.setRow b ([]++((a.eval y).cells.toList++[])).toArray,.inl (by rw[G];rfl),ax.setRow w b _,?_,fun M=>?_⟩
 ·exact lG N I
 ·refine⟨⟨b,_,G,setRow_heap w b _ _ T _ C,?_⟩,(D.own i _ he).2⟩;refine fU _ _ ((V4 _ _ _ _).2 ?_) M (fun _ _=>rfl);simpa using h
theorem Jw{T U:TypeId}{l l':List Slot}{i n:Nat}(hx:dB σ.g x=some (.ptr i 0))(he:aW σ.d i=some (.box T l pb))(hl:(l.map Slot.sz).sum=n)(hy:dB σ.g y=some (.agg l'))(V4:(l'.map Slot.sz).sum=n)(hnt:l'.all Slot.plain=true)
  (hS:∀w,(sizeOf U).run F.P w= .ok n w):JM F ⟨none,.store U x y,ty,p,af,gd⟩ σ ⟨σ.g,(i,.box T l' pb)::σ.d⟩:=by
 refine pZ he rfl fun ρ a w M N=>?_;have K:=cI M N (Op.store U x y).operands;obtain⟨b,z,O,h2,Q,h⟩:=zP K (x:=x) (by simp[Op.operands]) hx he;have I:=Jv N hy;simp only[Slot.ok] at I;obtain⟨R,C,D⟩:=I;have L:∀(l:List Slot) (z:List Value),bN ρ (Un F.S0 ρ σ.d) w l z->z.length=(l.map Slot.sz).sum:=by
  intro l
  induction l with
  |nil=>intro z h;simp only[bN] at h;simp[h]
  |cons t l H=>
   intro z h;simp only[bN] at h;obtain⟨c,d,rfl,E,G⟩:=h;rw[sM,nM E,H d G];simp
 have S:∀(l:List Slot) (z:List Value),l.all Slot.plain=true->bN ρ (Un F.S0 ρ σ.d) w l z->∀u∈z,u.oneCell'=true:=by
  intro l
  induction l with
  |nil=>intro z _ h;simp only[bN] at h;simp[h]
  |cons t l H=>
   intro z B h u A;simp only[bN] at h;obtain⟨c,d,rfl,E,G⟩:=h;simp only[List.all_cons,E7] at B;rcases K5.1 A with A | A
   ·exact Ha E u A (fun e=>by subst e;cases B.1)
   ·exact H d B.2 G u A
 have V:=lF (P:=F.P) (w:=w) (U:=U) (a:=[]) (c:=z) (e:=[]) (v:=a.eval y) hS (by rw[C];simp[Value.cells,L l' R D,V4]) (by rw[C];simpa[Value.cells] using S l' R hnt D) (by simpa using Q) rfl (by rw[L l z h,hl]);refine⟨b,w.setRow b ([]++((a.eval y).cells.toList++[])).toArray,.inl (by rw[O];rfl),ax.setRow w b _,?_,fun X=>?_⟩
 ·exact lG h2 V
 ·refine⟨⟨b,_,O,setRow_heap w b _ _ T _ Q,?_⟩,(M.own i _ he).2⟩;refine fU _ _ ?_ X (fun _ _=>rfl);rw[C];simpa[Value.cells] using D
theorem PG{xs:Array Operand}{ρ:Nat->LV}{S a w}(K:p3 σ xs ρ S a w)(hm:x∈xs){α:Type}{e:Wr α}{zs:List α}{T:TypeId}{i k off:Nat}(hx:dB σ.g x=some (.el i k e.n off))(he:aW σ.d i=some (.arr T e zs)):
  ∃b cap pre cs post,(ρ i).v= .slice (some ⟨b,pre.length,none⟩) zs.length cap/\a.eval x= .pointer (some ⟨b,pre.length+(k*e.n+off),none⟩)/\w.heap[b]? =some (.cells (pre++(cs++post)).toArray T (0,0))/\e.YY zs S w cs/\
   zs.length<=cap/\cap*e.n<=cs.length+post.length/\zs.length<=140737488355328:=by
 have h:=K.slot x hm _ hx;simp only[Slot.ok] at h;obtain⟨⟨b,o,l,c,z⟩,B⟩:=h;have:=(K.B9 x hm _ hx i (by simp[Slot.YJ]) _ he).1;rw[z] at B;rcases this with⟨_,u⟩|⟨E,cap,pre,cs,post,u,C,D⟩
 ·rw[z] at u;cases u
 ·have A:=z.symm.trans u;simp only[Value.slice.injEq,u3,Addr.mk.injEq,aEi] at A;obtain⟨⟨rfl,rfl⟩,_,_⟩:=A;exact⟨b,cap,pre,cs,post,u,B,C,D⟩
theorem jA{α:Type}{e:Wr α}{zs:List α}{T U E:TypeId}{k:IntKind}{n:Int}{z:α}{i:Nat}(hz:Sw.idx zs n=some z)(hx:dB σ.g x=some (.ref i))(he:aW σ.d i=some (.arr T e zs))(hy:dB σ.g y=some (.v (Wr.int k) n))
  (hU:∀w,(underlying U).run F.P w= .ok (.slice E) w) (hE:∀w,(sizeOf E).run F.P w= .ok e.n w):JO F ⟨d,.indexAddr U x y,ty,p,af,gd⟩ σ (.el i n.toNat e.n 0) []:=by
 intro ρ S a w K;obtain⟨B,C,_⟩:=yM K (x:=x) (by simp[Op.operands]) hx he;have A:=(fW K (x:=y) (by simp[Op.operands]) hy).1;obtain⟨D,G,H⟩:=dQ hz;rcases C with⟨rfl,_⟩|⟨b,cap,u,I,L,h,_⟩
 ·simp at G
 refine VU.value (w':=w) (v:= .pointer (some ⟨b,u.length+n.toNat*e.n,none⟩)) ?_ (XV.same (by simp only[Slot.ok];exact⟨⟨b,_,_,_,h⟩,by rw[h];simp[Ls]⟩));have:=Cy (P:=F.P) (w:=w) (b:=b) (off:=u.length) (cap:=cap) (k:=k) hU hE D (by omega:n<(zs.length:Int));simp only[execOp,B,A,h];simp[this]
theorem jV{α β:Type}{e:Wr α}{zs:List α}{z:α}{e':Wr β}{z':β}{T U:TypeId}{i k off:Nat}(hz:zs[k]? =some z)(hx:dB σ.g x=some (.el i k e.n off))(he:aW σ.d i=some (.arr T e zs))(hp:ux e z off e' z')
  (hA:∀w,(isAgg U).run F.P w= .ok e'.agg w) (hS:∀w,(sizeOf U).run F.P w= .ok e'.n w):JO F ⟨d,.load U x,ty,p,af,gd⟩ σ (.v e' z') []:=by
 intro ρ S a w K;obtain⟨b,X,h,cs,C,h1,M,N,O,_⟩:=PG K (x:=x) (by simp[Op.operands]) hx he;obtain⟨u,c,D,rfl,Q,R,_⟩:=qR O hz;obtain⟨A,c2,E,rfl,V,G⟩:=hp S w c R;have H:WC w b (h.length+(k*e.n+off)) c2:=by
  have B:=WC.of_heap N;have I:h++(u++(A++(c2++E)++D)++C)=(h++u++A)++(c2++(E++D++C)):=by simp
  rw[I] at B;have:=B.sub;have L:0+(h++u++A).length=h.length+(k*e.n+off):=by simp only[sM,Q,V];omega
  rw[L] at this;exact this
 refine VU.value (w':=w) (v:=e'.pk c2) ?_ (XV.same (by simp only[Slot.ok];exact⟨c2,G,rfl⟩));have:=Fx (P:=F.P) H G hA hS;simp[execOp,M,Instr.loadAt,Instr.sureAddr,this]
theorem Au(o':Nat){α:Type}{e:Wr α}{U:TypeId}{fs:Array Field}{n m i k off:Nat}{fl:Field}(hx:dB σ.g x=some (.el i k e.n off))(hU:∀w,(underlying U).run F.P w= .ok (.struct fs) w)(hf:fs[n]? =some fl)
  (hm:∀w,(sizeOf fl.type).run F.P w= .ok m w) (YZ:Nat.beq m 0=false) (ho:Nat.beq (off+fl.offset) o'=true):JO F ⟨d,.fieldAddr U x n,ty,p,af,gd⟩ σ (.el i k e.n o') []:=by
 have ho:=w9 ho;subst ho;intro ρ S a w K;have h:=K.slot x (by simp[Op.operands]) _ hx;simp only[Slot.ok] at h;obtain⟨⟨b,o,l,c,u⟩,z⟩:=h;rw[u] at z;refine VU.value (w':=w) (v:= .pointer (some ⟨b,o+(k*e.n+off)+fl.offset,none⟩)) ?_ (XV.same (by simp only[Slot.ok];exact⟨⟨b,o,l,c,u⟩,by rw[u];simp[Ls];omega⟩));have:=Cx (P:=F.P) (w:=w) (b:=b) (off:=o+(k*e.n+off)) hU hf hm YZ;simp only[execOp,z,Ls];simp[this]
theorem qW{α:Type}{e:Wr α}{zs:List α}{z z':α}{T U:TypeId}{i k:Nat}(hz:zs[k]? =some z)(hx:dB σ.g x=some (.el i k e.n 0))(he:aW σ.d i=some (.arr T e zs))(hy:dB σ.g y=some (.v e z'))
  (hS:∀w,(sizeOf U).run F.P w= .ok e.n w):JM F ⟨none,.store U x y,ty,p,af,gd⟩ σ ⟨σ.g,(i,.arr T e (zs.set k z'))::σ.d⟩:=by
 refine pZ he rfl fun ρ a w O G=>?_;have K:=cI O G (Op.store U x y).operands;obtain⟨b,S,h,cs,A,H,V,E,X,h5,h6,h7⟩:=PG K (x:=x) (by simp[Op.operands]) hx he;have D:=qT (s:= .v e z') rfl (Jv G hy);simp only[Slot.ZD] at D;obtain⟨B,c,C,rfl,hl,I,m3⟩:=qR X hz;have L:h++(B++(c++C)++A)=(h++B)++(c++(C++A)):=by simp
 rw[L] at E;have M:=lF (P:=F.P) (w:=w) (U:=U) (off:=h.length+(k*e.n+0)) hS (by have:=e.len D;simp only[aw] at this;omega) (fun u Q=>e.cell D u Q) E (by simp[hl]) (e.len I);have N:(h++B)++((a.eval y).cells.toList++(C++A))=h++((B++((a.eval y).cells.toList++C))++A):=by simp
 refine⟨b,w.setRow b ((h++B)++((a.eval y).cells.toList++(C++A))).toArray,.inl (by rw[H];rfl),ax.setRow w b _,?_,fun R=>?_⟩
 ·exact lG V M
 ·refine .inr ⟨b,S,h,B++((a.eval y).cells.toList++C),A,by simpa using H,?_,Wr.VX (m3 z' _ D) R,by simpa using h5,?_,by simpa using h7⟩
  ·rw[<-N];exact setRow_heap w b _ _ T _ E
  ·have:=e.len D;have:=e.len I;simp only[sM] at h6 ⊢;omega
theorem Mb{P:Program}{w:World}{U E:TypeId}{m b off len:Nat}{k:IntKind}{n:Int}(hU:∀w,(underlying U).run P w= .ok (.array len E) w)(hE:∀w,(sizeOf E).run P w= .ok m w)(h0:0<=n)(h1:n<len):
  (Instr.indexAt U (.pointer (some ⟨b,off,none⟩)) (.int k n)).run P w= .ok (.pointer (some ⟨b,off+n.toNat*m,none⟩)) w:=by
 have:Addr.add ⟨b,off,none⟩ (n.toNat*m)=⟨b,off+n.toNat*m,none⟩:=Addr.add_lit _ _ _;simp[Instr.indexAt,asIntOf,hU,Instr.sureAddr,h0,h1,hE,this]
theorem vA{α:Type}{e:Wr α}{zs:List α}{T U E:TypeId}{l:List Slot}{len i off:Nat}{k:IntKind}{n:Int}{z:α}(hz:Sw.idx zs n=some z)(hx:dB σ.g x=some (.ptr i off))(he:aW σ.d i=some (.box T l pb))(ho:nJ l off=some (.v (Wr.arr len e) zs))
  (hy:dB σ.g y=some (.v (Wr.int k) n)) (hU:∀w,(underlying U).run F.P w= .ok (.array len E) w) (hE:∀w,(sizeOf E).run F.P w= .ok e.n w):JO F ⟨d,.indexAddr U x y,ty,p,af,gd⟩ σ (.fg i off n.toNat e.n) []:=by
 intro ρ S a w K;obtain⟨b,H,h,B,I,C⟩:=zP K (x:=x) (by simp[Op.operands]) hx he;have A:=(fW K (x:=y) (by simp[Op.operands]) hy).1;obtain⟨D,L,M⟩:=dQ hz;obtain⟨N,c,O,rfl,_,u,_⟩:=uY ho C;simp only[Slot.ZD] at u;have G:=u.1;refine VU.value (w':=w) (v:= .pointer (some ⟨b,off+n.toNat*e.n,none⟩)) ?_ (XV.same (by simp only[Slot.ok];exact⟨⟨b,h⟩,by rw[h];rfl⟩));have:=Mb (P:=F.P) (w:=w) (b:=b) (off:=off) (k:=k) hU hE D (by omega:n<(len:Int));simp only[execOp,B,A];simp[this]
theorem ON{xs:Array Operand}{ρ:Nat->LV}{S a w}(K:p3 σ xs ρ S a w)(hm:x∈xs){i off k n:Nat}{T:TypeId}{l:List Slot}(hx:dB σ.g x=some (.fg i off k n))(he:aW σ.d i=some (.box T l pb)):
  ∃b cs,(ρ i).v= .pointer (some ⟨b,0,none⟩)/\a.eval x= .pointer (some ⟨b,off+k*n,none⟩)/\w.heap[b]? =some (.cells cs.toArray T (0,0))/\bN ρ S w l cs:=by
 have h:=K.slot x hm _ hx;simp only[Slot.ok] at h;obtain⟨⟨b,u⟩,z⟩:=h;have:=(K.B9 x hm _ hx i (by simp[Slot.YJ]) _ he).1;rw[u] at z;obtain⟨⟨A,cs,B,C,D⟩,_⟩:=this;have:A=b:=by rw[u] at B;simpa using B.symm
 subst this;exact⟨A,cs,u,z,C,D⟩
theorem vB{α:Type}{e:Wr α}{zs:List α}{z:α}{T U:TypeId}{l:List Slot}{len i off k:Nat}(hz:zs[k]? =some z)(hx:dB σ.g x=some (.fg i off k e.n))(he:aW σ.d i=some (.box T l pb))(ho:nJ l off=some (.v (Wr.arr len e) zs))
  (hA:∀w,(isAgg U).run F.P w= .ok e.agg w) (hS:∀w,(sizeOf U).run F.P w= .ok e.n w):JO F ⟨d,.load U x,ty,p,af,gd⟩ σ (.v e z) []:=by
 intro ρ S a w K;obtain⟨b,R,V,L,M,N⟩:=ON K (x:=x) (by simp[Op.operands]) hx he;obtain⟨h,c,B,rfl,O,C,_⟩:=uY ho N;simp only[Slot.ZD] at C;obtain⟨u,c',D,rfl,Q,E,_⟩:=qR C.2 hz;have G:WC w b (off+k*e.n) c':=by
  have A:=WC.of_heap M;have H:h++(u++(c'++D)++B)=(h++u)++(c'++(D++B)):=by simp
  rw[H] at A;have:=A.sub;have I:0+(h++u).length=off+k*e.n:=by simp[Q,O]
  rw[I] at this;exact this
 refine VU.value (w':=w) (v:=e.pk c') ?_ (XV.same (by simp only[Slot.ok];exact⟨c',E,rfl⟩));have:=Fx (P:=F.P) G E hA hS;simp[execOp,L,Instr.loadAt,Instr.sureAddr,this]
theorem Ud{α:Type}{e:Wr α}{zs:List α}{z z':α}{T U:TypeId}{l:List Slot}{len i off k:Nat}(hz:zs[k]? =some z)(hx:dB σ.g x=some (.fg i off k e.n))(he:aW σ.d i=some (.box T l pb))(ho:nJ l off=some (.v (Wr.arr len e) zs))
  (hy:dB σ.g y=some (.v e z')) (hS:∀w,(sizeOf U).run F.P w= .ok e.n w):JM F ⟨none,.store U x y,ty,p,af,gd⟩ σ ⟨σ.g,(i,.box T (nW l off (.v (Wr.arr len e) (zs.set k z'))) pb)::σ.d⟩:=by
 refine pZ he rfl fun ρ a w H I=>?_;have K:=cI H I (Op.store U x y).operands;obtain⟨b,cs,L,V,G,X⟩:=ON K (x:=x) (by simp[Op.operands]) hx he;have D:=qT (s:= .v e z') rfl (Jv I hy);simp only[Slot.ZD] at D;obtain⟨B,c,C,rfl,XE,E,h6⟩:=uY ho X;simp only[Slot.ZD] at E;obtain⟨aa,E⟩:=E;obtain⟨h,M,A,rfl,hl,O8,m3⟩:=qR E hz;have N:B++(h++(M++A)++C)=(B++h)++(M++(A++C)):=by simp
 rw[N] at G;have O:=lF (P:=F.P) (w:=w) (U:=U) (off:=off+k*e.n) hS (by have:=e.len D;simp only[aw] at this;omega) (fun u R=>e.cell D u R) G (by simp[hl,XE]) (e.len O8);have Q:(B++h)++((a.eval y).cells.toList++(A++C))=B++((h++((a.eval y).cells.toList++A))++C):=by simp
 refine⟨b,w.setRow b ((B++h)++((a.eval y).cells.toList++(A++C))).toArray,.inl (by rw[L];rfl),ax.setRow w b _,?_,fun S=>?_⟩
 ·exact lG V O
 ·refine⟨⟨b,B++((h++((a.eval y).cells.toList++A))++C),L,?_,?_⟩,(H.own i _ he).2⟩
  ·rw[<-Q];exact setRow_heap w b _ _ T _ G
  ·refine fU _ _ (h6 (.v (Wr.arr len e) (zs.set k z')) (h++((a.eval y).cells.toList++A)) ?_) S (fun _ _=>rfl);simp only[Slot.ZD];exact⟨by simpa using aa,m3 z' _ D⟩
end
end Go.Sw
namespace Go.Sw
open Go Go.RowKit
def wD(d:List (Nat×VS))(i:Nat):List (Nat×VS):=match d with
 | []=>[]
 | (j,h)::r=>bif Nat.beq j i then wD r i else (j,h)::wD r i
theorem Le{i k:Nat}:∀{d:List (Nat×VS)},aW (wD d i) k=if k=i then none else aW d k
 | []=>by simp[wD,aW]
 | (j,A)::r=>by
  have u:=Le (i:=i) (k:=k) (d:=r);simp only[wD];cases hb:Nat.beq j i with
  |true=>
   have:=w9 hb;subst this;simp only[XT,u,cK];by_cases h:k=j
   ·simp[h]
   ·have:¬j=k:=fun e=>h e.symm;simp[h,this]
  |false=>
   have z:j≠i:=fun e=>by subst e;simp at hb
   simp only[pF,cK,u];by_cases h:j=k
   ·subst h;simp[z]
   ·simp[h]
structure l6 (b:Option Nat) (w w':World):Prop where
 size:w.heap.size<=w'.heap.size
 other:∀k,k<w.heap.size->some k≠b->w'.heap[k]? =w.heap[k]?
 os:w'.os=w.os
 tape:w'.tape=w.tape
 output:w'.output=w.output
theorem l6.setRow(w:World)(b:Nat)(cs:Array Value):l6 (some b) w (w.setRow b cs):=⟨by simp[World.setRow],fun k _ h=>setRow_other w b k cs (fun e=>h (by rw[e])),rfl,rfl,rfl⟩
theorem l6.refl(b:Option Nat)(w:World):l6 b w w:=⟨YQ _,fun _ _ _=>rfl,rfl,rfl,rfl⟩
theorem l6.alloc(b:Option Nat)(w:World)(o:Obj):l6 b w (w.drew.alloc o):=⟨by simp,fun k h _=>heap_alloc_old w.drew o k h,rfl,rfl,rfl⟩
section
variable {F:XG}{σ:AS}{s:Slot}{d:Option Tmp}{ty:TypeId}{p:String}{af:Array Edge}{gd:Option (Nat×Bool)}{x y:Operand}
theorem AF{ρ:Nat->LV}{a:Act}{w w':World}{i j:Nat}{en en':VS}{u:LV}(hc:Core F σ.d ρ w)(hs:∀t s,lk σ.g t=some s->s.ok ρ (Un F.S0 ρ σ.d) w (a.tmps.getD t undef))(hz:a.tmps.size=F.N)(YX:a.defers=F.df)
  (hi:aW σ.d i=some en) (hf:σ.free [(j,en')]=true) (c9:gR d F.N=true) (hu:l6 (YV (ρ i).v) w w') (hsh:Zv u.v) (y9:en'.YJ=[])
  (hb:∀b,qQ u b->(qQ (ρ i) b\/w.heap.size<=b)/\b<w'.heap.size)
  (G8:∀S' ρ',Ext (Un F.S0 ρ σ.d) S' w w'->en'.ok ρ' S' w' u):St F ⟨iS d (.ref j) σ.g,(j,en')::wD σ.d i⟩ (a.put d u.v) w':=by
 let ρ':Nat->LV:=fun k=>if k=j then u else ρ k
 have H:ρ' j=u:=WV rfl;have E:∀k,k≠j->ρ' k=ρ k:=fun k h=>WM h;have U:=lB hf (i:=j) (en:=en') (by simp[aW]);have L:∀k e,aW ((j,en')::wD σ.d i) k=some e->(k=j/\e=en')\/(k≠j/\k≠i/\aW σ.d k=some e):=by
  intro k e h;rw[cK] at h;split at h
  ·rename_i z;cases h;exact .inl ⟨z.symm,rfl⟩
  ·rename_i z;rw[Le] at h;split at h
   ·cases h
   ·rename_i B;exact .inr ⟨fun e=>z e.symm,B,h⟩
 have hU:∀k,k<w.heap.size->Un F.S0 ρ' ((j,en')::wD σ.d i) k->Un F.S0 ρ σ.d k:=by
  rintro k I (h |⟨q,e,z,B⟩)
  ·exact .inl h
  ·rcases L q e z with⟨rfl,rfl⟩|⟨A,D,M⟩
   ·rw[H] at B;rcases (hb k B).1 with h | h
    ·exact .inr ⟨i,en,hi,h⟩
    ·omega
   ·rw[E q A] at B;exact .inr ⟨q,e,M,B⟩
 have S:Ext (Un F.S0 ρ σ.d) (Un F.S0 ρ' ((j,en')::wD σ.d i)) w w':=⟨hu.size,fun k I hn=>⟨hu.other k I (fun e=>hn (.inr ⟨i,en,hi,.inl e.symm⟩)),fun h=>hn (hU k I h)⟩⟩
 have ab:∀t s,lk σ.g t=some s->mO ρ ρ' s.YJ:=fun t s h k I=>congrArg LV.v (E k fun e=>by subst e;exact U.1 t s h I);have V:∀k e b,k≠i->aW σ.d k=some e->qQ (ρ k) b->¬qQ (ρ i) b:=fun k e b h z B A=>h (hc.inj k i e en b z hi B A);refine⟨⟨ρ',⟨hc.low,eh hc.size hu.size,fun k I hr=>?_,hu.os.trans hc.os,hu.tape.trans hc.tape,hu.output.trans hc.output,fun k e h=>?_,fun k e b h C=>?_,fun k O e K b h h' Q P=>?_,fun k e b h C=>?_⟩,?_⟩,by rw[lC,hz],by cases d<;>exact YX⟩
 ·rw[hu.other k (R4 I hc.size) (fun e=>?_)]
  ·exact hc.frame k I hr
  ·rcases (hc.fresh i en k hi (.inl e.symm)).1 with h | h
   ·omega
   ·exact hr h
 ·rcases L k e h with⟨rfl,rfl⟩|⟨z,B,A⟩
  ·rw[H];exact G8 _ _ S
  ·rw[E k z];refine VS.VP (hc.own k e A) S (fun q hq=>congrArg LV.v (E q fun K=>?_)) (fun b C=>hu.other b (hc.fresh k e b A C).2 (fun K=>V k e b B A C (.inl K.symm)));subst K;exact U.2.2 k e A hq
 ·rcases L k e h with⟨rfl,rfl⟩|⟨z,B,A⟩
  ·rw[H] at C;obtain⟨D,M⟩:=hb b C;refine⟨?_,M⟩;rcases D with D | D
   ·exact(hc.fresh i en b hi D).1
   ·exact .inl (eh hc.size D)
  ·rw[E k z] at C;exact⟨(hc.fresh k e b A C).1,R4 (hc.fresh k e b A C).2 hu.size⟩
 ·have X:∀k e,k≠j->k≠i->aW σ.d k=some e->qQ (ρ k) b->qQ u b->False:=fun k e _ B A D M=>by
   rcases (hb b M).1 with h6 | h6
   ·exact V k e b B A D h6
   ·have:=(hc.fresh k e b A D).2;omega
  rcases L k e h with⟨rfl,rfl⟩|⟨z,B,A⟩
  ·rcases L O K h' with⟨rfl,rfl⟩|⟨R,w7,T⟩
   ·rfl
   ·rw[H] at Q;rw[E O R] at P;exact(X O K R w7 T P Q).elim
  ·rw[E k z] at Q;rcases L O K h' with⟨rfl,rfl⟩|⟨R,w7,T⟩
   ·rw[H] at P;exact(X k e z B A Q P).elim
   ·rw[E O R] at P;exact hc.inj k O e K b A T Q P
 ·rcases L k e h with⟨rfl,rfl⟩|⟨z,B,A⟩
  ·rw[H] at C;rcases (hb b C).1 with D | D
   ·exact hc.apart i en b hi D
   ·intro M;have:=hc.low b M;have:=hc.size;omega
  ·rw[E k z] at C;exact hc.apart k e b A C
 ·intro t s G;have aa:∀t s,lk σ.g t=some s->s.ok ρ' (Un F.S0 ρ' ((j,en')::wD σ.d i)) w' (a.tmps.getD t undef):=fun t s G=>Slot.VP s _ (hs t s G) S (ab t s G);cases d with
  |none=>exact aa t s G
  |some q=>
   simp only[iS] at G;have XK:q<a.tmps.size:=by rw[hz];exact A6 c9
   rw[lD a q u.v t XK];rw[mG] at G;split at G
   ·rename_i z;cases G;rw[WV z];simp only[Slot.ok];exact⟨by rw[H];exact hsh,by rw[H]⟩
   ·rename_i z;rw[WM z];exact aa t s G
def Src(σ:AS)(y:Operand){α:Type}(e:Wr α)(ys:List α):Prop:=∀(ρ:Nat->LV) (S:Nat->Prop) (a:Act) (w:World),p3 σ #[y] ρ S a w->
 ys.length<=140737488355328/\∃ad cap,a.eval y= .slice ad ys.length cap/\(ys=[]\/∃b off ds,ad=some ⟨b,off,none⟩/\WC w b off ds/\e.YY ys S w ds)
theorem Src.sl{α:Type}{e:Wr α}{ys:List α}(h:dB σ.g y=some (.v (Wr.sl e) ys)):Src σ y e ys:=by
 intro ρ S a w K;have z:=K.slot y (by simp) _ h;simp only[Slot.ok] at z;obtain⟨A,B,C,D,u⟩:=sE.1 z;refine⟨D.2,A,B,C,?_⟩;rcases u with u |⟨b,E,F,G,_,_,H,I⟩
 ·exact .inl u
 ·exact .inr ⟨b,E,F,G,H,I⟩
def app{α:Type}(xs ys:List α):Option (List α):=if xs.length+ys.length<=4294967296 then some (xs++ys) else none
theorem Ue{α:Type}{xs ys zs:List α}(h:app xs ys=some zs):xs.length+ys.length<=4294967296/\zs=xs++ys:=by
 unfold app at h;split at h
 ·rename_i u;exact⟨u,by cases h;rfl⟩
 ·cases h
theorem tK{P:Program}{w:World}{U E tt:TypeId}{n:Nat}{base ad:Option Addr}{l c cap:Nat}(hU:∀w,(underlying U).run P w= .ok (.slice E) w)(hE:∀w,(sizeOf E).run P w= .ok n w)(hle:l<=cap):
  (Builtin.append_ #[U,U] tt #[.slice base l cap,.slice ad 0 c]).run P w= .ok (.slice base l cap) w:=by
 have h:(Builtin.firstCells n 0 (.slice ad 0 c)).run P w= .ok #[] w:=by
  cases ad<;>simp[Builtin.firstCells,loadCells,loadCellsFrom]
 cases base<;>simp[Builtin.append_,hU,hE,Builtin.lenOf,hle,h,storeCells]
theorem Fk{P:Program}{w:World}{U E tt:TypeId}{n g off l cap m c:Nat}{cur:List Value}{a:Addr}{news:List Value}(hU:∀w,(underlying U).run P w= .ok (.slice E) w)(hE:∀w,(sizeOf E).run P w= .ok n w)
  (hg:w.heap[g]? =some (.cells cur.toArray E (0,0))) (hl:news.length=m*n) (C3:∀j u,news[j]? =some u->w.cell? (a.add j)=some u) (h1:∀u∈news,u.oneCell'=true) (L5:l+m<=cap) (O5:off+l*n+news.length<=cur.length):
  (Builtin.append_ #[U,U] tt #[.slice (some ⟨g,off,none⟩) l cap,.slice (some a) m c]).run P w=
   .ok (.slice (some ⟨g,off,none⟩) (l+m) cap) (w.setRow g (cur.take (off+l*n)++news++cur.drop (off+l*n+news.length)).toArray):=by
 have z:=run_firstCells_some (P:=P) w n m a m c news hl C3;have h:=run_storeCells_at P g (off+l*n) E news 0 cur.toArray w hg (by simpa using O5) h1;simp only[aDh] at h;simp[Builtin.append_,hU,hE,Builtin.lenOf,L5,z,Addr.add_lit,h]
theorem cG{α:Type}{e:Wr α}{xs ys zs:List α}{T U:TypeId}{ti:TypeInfo}{z:Value}{i:Nat}(j:Nat)(ha:app xs ys=some zs)(hx:dB σ.g x=some (.ref i))(he:aW σ.d i=some (.arr T e xs))(hy:Src σ y e ys)
  (hU:∀w,(underlying U).run F.P w= .ok (.slice T) w) (hI:∀w,(typeInfo T).run F.P w= .ok ti w) (hS:∀w,(sizeOf T).run F.P w= .ok e.n w) (hz:ti.zero=some z) (hzs:z.cells.size=e.n) (V5:Nat.ble ti.bytes 4096=true)
  (hf:σ.free [(j,.arr T e zs)]=true) (hd:gR d F.N=true):
  JM F ⟨d,.call ⟨.builtin .append,#[x,y],#[U,U]⟩,ty,p,af,gd⟩ σ ⟨iS d (.ref j) σ.g,(j,.arr T e zs)::wD σ.d i⟩:=by
 obtain⟨X,rfl⟩:=Ue ha;have V5:=A6 V5;rintro a w ⟨⟨ρ,hc,hs⟩,q7,YX⟩;have K:=cI hc hs (Op.call ⟨.builtin .append,#[x,y],#[U,U]⟩).operands;have xu:ti.size=e.n:=Ld hI hS;obtain⟨h1,A,h3⟩:=yM K (x:=x) (by simp[Op.operands,Call.operands]) hx he;have YD:∀q,q∈#[y]->q∈(Op.call ⟨.builtin .append,#[x,y],#[U,U]⟩).operands:=by
  intro q R;have M9:q=y:=by simpa using R
  subst M9;simp[Op.operands,Call.operands]
 obtain⟨S8,ad,c,h4,h5⟩:=hy ρ _ a w ⟨K.low,fun q R s h=>K.slot q (YD q R) s h,fun q R s h=>K.B9 q (YD q R) s h⟩;have mn:∀v w',(Builtin.append_ #[U,U] ty #[(ρ i).v,.slice ad ys.length c]).run F.P w= .ok v w'->(execOp a.eval ⟨d,.call ⟨.builtin .append,#[x,y],#[U,U]⟩,ty,p,af,gd⟩).run F.P w= .ok (.value v) w':=by
  intro v w' h;simp[execOp,resolve,invoke,builtin,h1,h4,h]
 have fin:∀u w',(Builtin.append_ #[U,U] ty #[(ρ i).v,.slice ad ys.length c]).run F.P w= .ok u w'->l6 (YV (ρ i).v) w w'->Zv u->(∀b,YV u=some b->(YV (ρ i).v=some b\/w.heap.size<=b)/\b<w'.heap.size)->
   (∀C ρ',Ext (Un F.S0 ρ σ.d) C w w'->(VS.arr T e (xs++ys)).ok ρ' C w' (.of u))->
   VU F.P ⟨d,.call ⟨.builtin .append,#[x,y],#[U,U]⟩,ty,p,af,gd⟩ a w fun v w'=>St F ⟨iS d (.ref j) σ.g,(j,.arr T e (xs++ys))::wD σ.d i⟩ (a.put d v) w':=
  fun u w' H hu an hb G8=>VU.value (mn u w' H) (AF (u:= .of u) hc hs q7 YX he hf hd hu an rfl (fun b h=>⟨(hb b (pH.1 h)).1.imp .inl id,(hb b (pH.1 h)).2⟩) G8)
 rcases h5 with rfl |⟨b,ab,D,rfl,hm,gr⟩
 ·
  rw[Z4] at*;rcases A with⟨rfl,A⟩|⟨b,cap,B,cs,G,A,I,L,M,h9⟩
  ·refine fin (.slice none 0 0) w ?_ (l6.refl _ _) (.inl ⟨_,_,_,rfl⟩) (fun b h=>by simp[YV] at h) (fun _ _ _=> .inl ⟨rfl,rfl⟩);rw[A];exact tK hU hS (YQ _)
  ·refine fin (ρ i).v w ?_ (l6.refl _ _) (.inl ⟨_,_,_,A⟩) (fun b h=>⟨.inl h,(h3 b (.inl h)).2⟩) (fun C ρ' E=>?_)
   ·rw[A];exact tK hU hS M
   ·exact .inr ⟨b,cap,B,cs,G,A,I,Wr.VX L E,M,h9⟩
 ·have O:=cP gr;have L7:=hm.cell;have C2:=rI gr;have aa:∀(C:Nat->Prop) (w':World) (cs:List Value),Ext (Un F.S0 ρ σ.d) C w w'->e.YY xs (Un F.S0 ρ σ.d) w cs->e.YY (xs++ys) C w' (cs++D):=fun C w' cs E h=>gM (Wr.VX h E) (Wr.VX gr E);have nr:∀q,(Builtin.zeroCells z.cells q).toList.length=q*e.n:=fun q=>by rw[aw,size_zeroCells,hzs]
  by_cases ac:ys.length=0
  ·
   have al:ys=[]:=ig ac;subst al;rw[Z4] at*;rcases A with⟨rfl,A⟩|⟨V,cap,B,cs,G,A,I,L,M,h9⟩
   ·refine fin (.slice none 0 0) w ?_ (l6.refl _ _) (.inl ⟨_,_,_,rfl⟩) (fun b h=>by simp[YV] at h) (fun _ _ _=> .inl ⟨rfl,rfl⟩);rw[A];exact tK hU hS (YQ _)
   ·refine fin (ρ i).v w ?_ (l6.refl _ _) (.inl ⟨_,_,_,A⟩) (fun b h=>⟨.inl h,(h3 b (.inl h)).2⟩) (fun C ρ' E=>?_)
    ·rw[A];exact tK hU hS M
    ·exact .inr ⟨V,cap,B,cs,G,A,I,Wr.VX L E,M,h9⟩
  rcases A with⟨rfl,A⟩|⟨g,cap,B,cs,G,A,I,L,M,h9,U1⟩
  ·
   have H:=run_append_nil (P:=F.P) w U ty T ti z (qV hU) (uB hI) hz ⟨b,ab,none⟩ ys.length c D (by rw[xu];exact O) L7 (by omega) (by simp at X;omega) (by
    have:ys.length*ti.bytes<=4294967296*4096:=aCt (by simp at X;omega) V5
    omega)
   have gp:=grownCap_ge w ys.length 0 T;refine fin _ _ (by rw[A];exact H) (l6.alloc _ _ _) (.inl ⟨_,_,_,rfl⟩) (fun V h=>?_) (fun C ρ' E=>?_)
   ·simp only[YV,u3] at h;subst h;exact⟨.inr (YQ _),by simp⟩
   ·have kq:=aa C _ [] E rfl;simp only[U7] at kq ⊢;refine .inr ⟨w.heap.size,_,[],D,(Builtin.zeroCells z.cells (grownCap w ys.length 0 T - ys.length)).toList,rfl,?_,kq,gp,?_,by simp at X;omega⟩
    ·rw[show w.heap.size=w.drew.heap.size from rfl,heap_alloc_new];simp
    ·rw[O,nr,<-K2];exact vr _ (by omega)
  ·by_cases S:xs.length+ys.length<=cap
   ·
    have Q:=cP L;have O5:B.length+xs.length*e.n+D.length<=(B++(cs++G)).length:=by
     have:(xs.length+ys.length)*e.n<=cap*e.n:=vr _ S;rw[K2] at this;simp only[sM];omega
    have H:=Fk (P:=F.P) (w:=w) (tt:=ty) (cap:=cap) (c:=c) hU hS I (by exact O) L7 C2 S O5;have e1:(B++(cs++G)).take (B.length+xs.length*e.n)=B++cs:=by
     rw[<-C9,<-Q,<-sM];exact ze
    have e2:(B++(cs++G)).drop (B.length+xs.length*e.n+D.length)=G.drop D.length:=by
     rw[<-C9,<-Q,<-sM,aD5];simp
    rw[e1,e2] at H;refine fin _ _ (by rw[A];exact H) (by rw[A];exact l6.setRow w g _) (.inl ⟨_,_,_,rfl⟩) (fun V h=>?_) (fun C ρ' E=>?_)
    ·rw[A];simp only[YV,u3] at h ⊢;subst h;exact⟨.inl rfl,by have:=(WC.of_heap I).lt;simpa[World.setRow] using this⟩
    ·refine .inr ⟨g,cap,B,cs++D,G.drop D.length,by simp[LV.of],?_,aa C _ cs E L,by simpa using S,?_,by simp;omega⟩
     ·have:=setRow_heap w g _ (B++cs++D++G.drop D.length).toArray T _ I;rw[this];simp
     ·have:(xs.length+ys.length)*e.n<=cap*e.n:=vr _ S;rw[K2] at this;simp only[sM,P5];omega
   ·
    have Q:=cP L;have am:WC w g B.length cs:=by have:=(WC.of_heap I).sub;simpa using this
    have H:=run_append_grow (P:=F.P) w U ty T ti z (qV hU) (uB hI) hz ⟨g,B.length,none⟩ xs.length cap cs (by rw[xu];exact Q) am.cell ⟨b,ab,none⟩ ys.length c D (by rw[xu];exact O) L7 (by omega) (by omega) (growslice_fits (by omega) (by
     have:(xs.length+ys.length)*ti.bytes<=4294967296*4096:=aCt X V5
     omega))
    have gp:=grownCap_ge w (xs.length+ys.length) cap T;refine fin _ _ (by rw[A];exact H) (l6.alloc _ _ _) (.inl ⟨_,_,_,rfl⟩) (fun V h=>?_) (fun C ρ' E=>?_)
    ·simp only[YV,u3] at h;subst h;exact⟨.inr (YQ _),by simp⟩
    ·refine .inr ⟨w.heap.size,grownCap w (xs.length+ys.length) cap T,[],cs++D,(Builtin.zeroCells z.cells (grownCap w (xs.length+ys.length) cap T - (xs.length+ys.length))).toList,by simp[LV.of],?_,aa C _ cs E L,by simpa using gp,?_,by simp;omega⟩
     ·rw[show w.heap.size=w.drew.heap.size from rfl,heap_alloc_new];have:cs.toArray++D.toArray++Builtin.zeroCells z.cells (grownCap w (xs.length+ys.length) cap T - (xs.length+ys.length))=
        ([]++((cs++D)++(Builtin.zeroCells z.cells (grownCap w (xs.length+ys.length) cap T - (xs.length+ys.length))).toList)).toArray:=by
       apply Array.ext';simp
      rw[this]
     ·rw[sM,Q,O,nr,<-K2,<-K2];exact vr _ (by omega)
end
end Go.Sw
namespace Go.Sw
open Go Go.RowKit
theorem Jy:∀(vs:List Value) (k off:Nat) (cs:Array Value),off+k+vs.length<=cs.size->
  ((vs.zipIdx k).foldl (fun cs (x:Value×Nat)=>cs.setIfInBounds (off+x.2) x.1) cs).toList=cs.toList.take (off+k)++vs++cs.toList.drop (off+k+vs.length)
 | [],k,off,cs,_=>by simp
 |v::vs,k,off,cs,h=>by
  simp only[aCk,U6];rw[Jy vs (k+1) off _ (by simp at h ⊢;omega)];have u:off+k<cs.toList.length:=by simp at h ⊢;omega
  simp only[Array.toList_setIfInBounds];have z:off+(k+1)=off+k+1:=by omega
  rw[z,List.take_set,List.drop_set_of_lt (by omega)];have A:(cs.toList.take (off+k+1)).set (off+k) v=cs.toList.take (off+k)++[v]:=by
   rw[List.take_succ_eq_append_getElem u,List.set_append_right _ _ (by rw[D7];omega)];have:off+k - (cs.toList.take (off+k)).length=0:=by rw[D7];omega
   rw[this];rfl
  rw[A];simp only[C8,C9,aDk];congr 3;omega
theorem Ec{place:Nat->Option (Nat×Nat)}{cells:Array Value}{i off n:Nat}{v:Value}{rest:List (Nat×Value)}{a c e:List Value}(hp:place i=some (off,n))(hn:v.cells.size=n)(hc:cells.toList=a++(c++e))(ha:a.length=off)(hl:c.length=n):
  Instr.fill place cells ((i,v)::rest)=Instr.fill place (a++(v.cells.toList++e)).toArray rest:=by
 have A:cells.size=a.length+(c.length+e.length):=by rw[<-aw,hc];simp
 have h:¬(v.cells.size≠n || decide (off+v.cells.size>cells.size))=true:=by
  simp only[zh,aC3,not_or];omega
 simp only[Instr.fill,hp];rw[WM h];congr 1;apply Array.ext';have:=Jy v.cells.toList 0 off cells (by simp;omega);simp only[aDh] at this;rw[<-aEj,Array.toList_zipIdx,this,hc];have u:(a++(c++e)).take off=a:=by rw[<-ha];exact ze
 have z:(a++(c++e)).drop (off+v.cells.toList.length)=e:=by
  rw[<-C9];have:off+v.cells.toList.length=(a++c).length:=by simp;omega
  rw[this];exact qu
 rw[u,z];simp
section
variable {F:XG}{σ:AS}{s:Slot}{d:Option Tmp}{ty:TypeId}{p:String}{af:Array Edge}{gd:Option (Nat×Bool)}{x y:Operand}
def Rr(l:List Slot)(p q:Nat)(new:List Slot):List Slot:=l.take p++(new++l.drop (p+q))
def GI(l:List Slot):Nat:=(l.map Slot.sz).sum
theorem Lf{ρ:Nat->LV}{S:Nat->Prop}{w:World}:∀{l:List Slot} {cs:List Value},bN ρ S w l cs->cs.length=GI l:=by
 intro l
 induction l with
 |nil=>intro cs h;simp only[bN] at h;simp[h,GI]
 |cons t l A=>
  intro cs h;simp only[bN] at h;obtain⟨c,d,rfl,u,z⟩:=h;rw[sM,nM u,A z];simp[GI]
theorem CP{ρ:Nat->LV}{S:Nat->Prop}{w:World}:∀{l:List Slot} {cs:List Value},l.all Slot.plain=true->bN ρ S w l cs->∀u∈cs,u.oneCell'=true:=by
 intro l
 induction l with
 |nil=>intro cs _ h;simp only[bN] at h;simp[h]
 |cons t l D=>
  intro cs A h u z;simp only[bN] at h;obtain⟨c,d,rfl,B,C⟩:=h;simp only[List.all_cons,E7] at A;rcases K5.1 z with z | z
  ·exact Ha B u z (fun e=>by subst e;cases A.1)
  ·exact D A.2 C u z
theorem Mc{ρ:Nat->LV}{S:Nat->Prop}{w:World}{l new:List Slot}{p q off n:Nat}{cs:List Value}(h1:Nat.beq (GI (l.take p)) off=true)(h2:Nat.beq (GI ((l.drop p).take q)) n=true)(h:bN ρ S w l cs):
  ∃a c d,cs=a++(c++d)/\a.length=off/\c.length=n/\∀c',bN ρ S w new c'->bN ρ S w (Rr l p q new) (a++(c'++d)):=by
 replace h1:=w9 h1;replace h2:=w9 h2;rw[<-U4 p l,xG] at h;obtain⟨a,e,rfl,u,z⟩:=h;rw[<-U4 q (l.drop p),xG,aDc] at z;obtain⟨c,d,rfl,B,C⟩:=z;refine⟨a,c,d,rfl,by rw[Lf u,h1],by rw[Lf B,h2],fun c' A=>?_⟩;unfold Rr;rw[xG];exact⟨a,c'++d,rfl,u,xG.2 ⟨c',d,rfl,A,C⟩⟩
inductive M6 (σ:AS) (pl:Array (Nat×Nat)):List Slot->List (Nat×Operand)->List Slot->Prop
 |nil {l:List Slot}:M6 σ pl l [] l
 |cons {l l':List Slot} {i off n:Nat} {x:Operand} {s s0:Slot} {rest:List (Nat×Operand)}:pl[i]? =some (off,n)->Arg σ false x s->s.plain=true->s.sz=n->nJ l off=some s0->s0.sz=n->M6 σ pl (nW l off s) rest l'->M6 σ pl l ((i,x)::rest) l'
 |agg {l l' new:List Slot} {i off n:Nat} {x:Operand} {rest:List (Nat×Operand)} (p q:Nat):pl[i]? =some (off,n)->dB σ.g x=some (.agg new)->new.all Slot.plain=true->Nat.beq (GI new) n=true->Nat.beq (GI (l.take p)) off=true->Nat.beq (GI ((l.drop p).take q)) n=true->M6 σ pl (Rr l p q new) rest l'->M6 σ pl l ((i,x)::rest) l'
theorem M6.spec{pl:Array (Nat×Nat)}{l l':List Slot}{ps:List (Nat×Operand)}(h:M6 σ pl l ps l'){ρ S a w}{ys:Array Operand}(bm:∀x∈ps.map (·.2),x∈ys)(K:p3 σ ys ρ S a w):
  ∀cs:List Value,bN ρ S w l cs->∃ds:List Value,Instr.fill (pl[·]?) cs.toArray (ps.map fun q=>(q.1,a.eval q.2))=some ds.toArray/\bN ρ S w l' ds:=by
 induction h with
 |nil=>intro cs h;exact⟨cs,rfl,h⟩
 |cons L M T A N O _ P=>
  rename_i l l' i V n x s s0 X _;intro cs C
  have z:=M ρ S a w ⟨K.low,fun y u s h=>K.slot y (bm y (by
   have:y=x:=by simpa using u
   subst this;simp)) s h,fun y u s h=>K.B9 y (bm y (by
    have:y=x:=by simpa using u
    subst this;simp)) s h⟩
  simp only[P2,j5] at z;have B:=qT T z;obtain⟨D,c,E,rfl,F,k1,G⟩:=uY N C;obtain⟨ds,H,I⟩:=P (fun y u=>bm y (by simp only[D8,o6];exact .inr u)) _ (G s _ B);refine⟨ds,?_,I⟩;rw[D8,Ec (a:=D) (c:=c) (e:=E) L (by have:=nM B;simp only[aw] at this;rw[this];exact A) (by simp) F (by rw[nM k1];exact O)];exact H
 |agg p q L M T A N O _ P=>
  rename_i l l' aa i V n x X _;intro cs C;replace A:=w9 A;have z:=K.slot x (bm x (by simp)) _ M;simp only[Slot.ok] at z;obtain⟨c',Q,R⟩:=z;obtain⟨D,c,E,rfl,F,B,G⟩:=Mc N O C;obtain⟨ds,H,I⟩:=P (fun y u=>bm y (by simp only[D8,o6];exact .inr u)) _ (G c' R);refine⟨ds,?_,I⟩;have U:(a.eval x).cells.toList=c':=by rw[Q];simp[Value.cells]
  rw[D8,Ec (a:=D) (c:=c) (e:=E) L (by rw[Q];simp[Value.cells,Lf R,A]) (by simp) F B,U];exact H
theorem bP{T:TypeId}{pl:Array (Nat×Nat)}{zs:List Value}{ps:List (Nat×Operand)}{l l':List Slot}(hB:∀parts,F.P.built T parts=Instr.fill (pl[·]?) zs.toArray parts)(hz:Zr zs l)(hp:M6 σ pl l ps l'):
  JO F ⟨d,.build T ps.toArray,ty,p,af,gd⟩ σ (.agg l') []:=by
 intro ρ S a w K;obtain⟨h,z,A⟩:=hp.spec (ys:=(Op.build T ps.toArray).operands) (by intro x u;simp[Op.operands] at u ⊢;exact u) K zs (hz ρ S w);refine VU.value (w':=w) (v:= .agg h.toArray) ?_ (XV.same (by simp only[Slot.ok];exact⟨h,rfl,A⟩));have:=run_build (P:=F.P) w T (ps.map fun q=>(q.1,a.eval q.2)).toArray h.toArray (by rw[hB];exact z);simp only[execOp,aDd];simp[this]
inductive C5 (σ:AS) {α:Type} (e:Wr α):Nat->List (Nat×Operand)->List α->Prop
 |nil {k:Nat}:C5 σ e k [] []
 |cons {k:Nat} {x:Operand} {z:α} {ps:List (Nat×Operand)} {zs:List α}:Arg σ false x (.v e z)->C5 σ e (k+1) ps zs->C5 σ e k ((k,x)::ps) (z::zs)
theorem C5.spec{α:Type}{e:Wr α}{k:Nat}{ps:List (Nat×Operand)}{zs:List α}(h:C5 σ e k ps zs){ρ S a w}{ys:Array Operand}(bm:∀x∈ps.map (·.2),x∈ys)(K:p3 σ ys ρ S a w):
  ∀pre rest:List Value,pre.length=k*e.n->rest.length=ps.length*e.n->∃ds:List Value,Instr.fill (fun i=>some (i*e.n,e.n)) (pre++rest).toArray (ps.map fun q=>(q.1,a.eval q.2))=some (pre++ds).toArray/\e.YY zs S w ds:=by
 induction h with
 |nil=>intro pre rest D E;simp at E;subst E;exact⟨[],rfl,rfl⟩
 |cons D _ L=>
  rename_i k x z ps zs _;intro pre rest F G
  have C:=D ρ S a w ⟨K.low,fun y u s h=>K.slot y (bm y (by
   have:y=x:=by simpa using u
   subst this;simp)) s h,fun y u s h=>K.B9 y (bm y (by
    have:y=x:=by simpa using u
    subst this;simp)) s h⟩
  simp only[P2,j5] at C;have A:=qT (s:= .v e z) rfl C;simp only[Slot.ZD] at A;have B:=e.len A;simp only[C8,K2,qq] at G;obtain⟨ds,H,I⟩:=L (fun y u=>bm y (by simp only[D8,o6];exact .inr u)) (pre++(a.eval x).cells.toList) (rest.drop e.n) (by rw[sM,F,B,K2,qq]) (by rw[P5];omega);refine⟨(a.eval x).cells.toList++ds,?_,⟨_,_,rfl,A,I⟩⟩;rw[D8,Ec (a:=pre) (c:=rest.take e.n) (e:=rest.drop e.n) rfl (by simp only[aw] at B;exact B) (by simp) F (by rw[D7];omega)];simpa[C9] using H
theorem LL{P:Program}{w:World}{U E:TypeId}{n len:Nat}{z:Value}{parts:Array (Nat×Value)}{R:List Value->Prop}(hU:∀w,(underlying U).run P w= .ok (.slice E) w)(hS:∀w,(sizeOf E).run P w= .ok n w)(hz:∀w,(zeroValue E).run P w= .ok z w)
  (hle:len*n<=16777216) (hf:∀rest:List Value,rest.length=len*n->∃ds:List Value,Instr.fill (fun i=>some (i*n,n)) rest.toArray parts.toList=some ds.toArray/\R ds):
  ∃ds:List Value,R ds/\(Instr.buildSlice U len parts).run P w= .ok (.slice (some ⟨w.heap.size,0,none⟩) len len) (w.alloc (.cells ds.toArray E)):=by
 have C:¬(16777216<len*n):=by omega
 have D:∀A:Array Value,∃ds:List Value,R ds/\Instr.fill (fun i=>some (i*n,n)) ((Array.range (len*n)).map (A[·% A.size]!)) parts.toList=some ds.toArray:=by
  intro A;obtain⟨ds,B,h⟩:=hf ((Array.range (len*n)).map (A[·% A.size]!)).toList (by simp);exact⟨ds,h,by rw[<-B]⟩
 obtain⟨ds,B,h⟩:=D (if len*n=0 then #[] else z.cells);refine⟨ds,B,?_⟩;unfold Instr.buildSlice;simp only[Sem.run_bind,hU,hS,Result.andThen_ok];rw[WM (by simpa using C)];by_cases u:len*n=0
 ·rw[WV u] at h;simp only[Sem.run_bind,Sem.run_pure,Result.andThen_ok,u,l3];rw[u] at h;rw[h];simp[newRow]
 ·rw[WM u] at h;simp only[Sem.run_bind,Sem.run_pure,Result.andThen_ok,u,j5,hz];rw[h];simp[newRow]
theorem Jz(w:World)(ds:List Value)(E:TypeId):WC (w.alloc (.cells ds.toArray E)) w.heap.size 0 ds:=WC.of_heap (T:=E) (fr:=(0,0)) (heap_alloc_new _ _)
theorem Rs{α:Type}{e:Wr α}{U E:TypeId}{len:Nat}{z:Value}{ps:List (Nat×Operand)}{zs:List α}{ρ S a w}(hU:∀w,(underlying U).run F.P w= .ok (.slice E) w)(hS:∀w,(sizeOf E).run F.P w= .ok e.n w)(hz:∀w,(zeroValue E).run F.P w= .ok z w)
  (hle:Nat.ble (len*e.n) 16777216=true) (hl:ps.length=len) (he:C5 σ e 0 ps zs) (K:p3 σ (Op.buildSlice U len ps.toArray).operands ρ S a w):
  ∃ds:List Value,e.YY zs S w ds/\(execOp a.eval ⟨d,.buildSlice U len ps.toArray,ty,p,af,gd⟩).run F.P w= .ok (.value (.slice (some ⟨w.heap.size,0,none⟩) len len)) (w.alloc (.cells ds.toArray E)):=by
 obtain⟨ds,h,u⟩:=LL (P:=F.P) (w:=w) (U:=U) (len:=len) (parts:=(ps.map fun q=>(q.1,a.eval q.2)).toArray) (R:=fun ds=>e.YY zs S w ds) hU hS hz (A6 hle) (fun B C=>by
  obtain⟨ds,h,u⟩:=he.spec (ys:=(Op.buildSlice U len ps.toArray).operands) (by intro x A;simp[Op.operands] at A ⊢;exact A) K [] B (by simp) (by rw[hl];exact C)
  exact⟨ds,by simpa using h,u⟩)
 refine⟨ds,h,?_⟩;simp only[execOp,aDd];simp[u]
theorem eJ{α:Type}{e:Wr α}{U E:TypeId}{len:Nat}{z:Value}{ps:List (Nat×Operand)}{zs:List α}(hU:∀w,(underlying U).run F.P w= .ok (.slice E) w)(hS:∀w,(sizeOf E).run F.P w= .ok e.n w)(hz:∀w,(zeroValue E).run F.P w= .ok z w)
  (hle:Nat.ble (len*e.n) 16777216=true) (hl:ps.length=len) (V4:zs.length=len) (hb:Nat.ble len 16777216=true) (he:C5 σ e 0 ps zs):JO F ⟨d,.buildSlice U len ps.toArray,ty,p,af,gd⟩ σ (.v (Wr.sl e) zs) []:=by
 intro ρ S a w K;obtain⟨u,C,D⟩:=Rs (d:=d) (ty:=ty) (p:=p) (af:=af) (gd:=gd) hU hS hz hle hl he K;have A:=lK w (.cells u.toArray E);have B:Ext S (Un S ρ []) w (w.alloc (.cells u.toArray E)):=rJ A fun k _ h=>by
  rcases h with h |⟨i,G,h,_⟩
  ·exact h
  ·simp[aW] at h
 refine VU.value D ⟨ρ,fun _ _=>rfl,A,?_,⟨fun _ _ h=>by simp[aW] at h,fun _ _ _ h=>by simp[aW] at h,fun _ _ _ _ _ h=>by simp[aW] at h⟩⟩;simp only[Slot.ok];have hb:=A6 hb;refine sE.2 ⟨_,len,by rw[V4],⟨by omega,by omega⟩,.inr ⟨w.heap.size,0,u,rfl,by simp,?_,Jz w u E,Wr.VX C B⟩⟩;rintro (h |⟨i,G,h,_⟩)
 ·have:=K.low _ h;omega
 ·simp[aW] at h
theorem rK{α:Type}{e:Wr α}{U E:TypeId}{len:Nat}{z:Value}{ps:List (Nat×Operand)}{zs:List α}(i:Nat)(hU:∀w,(underlying U).run F.P w= .ok (.slice E) w)(hS:∀w,(sizeOf E).run F.P w= .ok e.n w)(hz:∀w,(zeroValue E).run F.P w= .ok z w)
  (hle:Nat.ble (len*e.n) 16777216=true) (hl:ps.length=len) (V4:zs.length=len) (hb:Nat.ble len 16777216=true) (he:C5 σ e 0 ps zs):JO F ⟨d,.buildSlice U len ps.toArray,ty,p,af,gd⟩ σ (.ref i) [(i,.arr E e zs)]:=by
 intro ρ S a w K;obtain⟨B,u,C⟩:=Rs (d:=d) (ty:=ty) (p:=p) (af:=af) (gd:=gd) hU hS hz hle hl he K;have hb:=A6 hb;refine VU.value C (zN (.slice (some ⟨w.heap.size,0,none⟩) len len) (lK _ _) rfl ?_ ?_ ?_)
 ·intro b h;simp only[YV,u3] at h;subst h;exact⟨YQ _,by simp⟩
 ·intro A ρ' h _;refine .inr ⟨w.heap.size,len,[],B,[],by rw[V4];rfl,?_,Wr.VX u (Rm (lK _ _) h),by omega,?_,by omega⟩
  ·rw[heap_alloc_new];simp
  ·have:=cP u;rw[V4] at this;simp[this]
 ·intro A ρ' _ hi _;simp only[Slot.ok];exact⟨by rw[hi];exact .inl ⟨_,_,_,rfl⟩,hi.symm⟩
def mk{α:Type}(n:Int)(z:α):Option (List α):=if 0<=n/\n<=4294967296 then some (List.replicate n.toNat z) else none
theorem AG{α:Type}{n:Int}{z:α}{zs:List α}(h:mk n z=some zs):0<=n/\n<=4294967296/\zs=List.replicate n.toNat z:=by
 unfold mk at h;split at h
 ·rename_i u;exact⟨u.1,u.2,by cases h;rfl⟩
 ·cases h
theorem GJ{α:Type}{e:Wr α}{z:α}{zc:Array Value}(hz:∀S w,e.ok z S w zc.toList)(m:Nat)(S:Nat->Prop)(w:World):e.YY (List.replicate m z) S w (madeCells zc (m*e.n)).toList:=by
 have E:zc.size=e.n:=by have:=e.len (hz S w);simpa using this
 have C:(madeCells zc (m*e.n)).toList=(List.replicate m zc.toList).flatten:=by
  induction m with
  |zero=>simp[madeCells,Array.range_zero']
  |succ m B=>
   rw[List.replicate_succ',List.flatten_append,<-B];apply zj;intro i;simp only[madeCells,Array.toList_map,List.getElem?_append,lf,ld,aw,Array.size_range,Array.getElem?_toList];by_cases D:i<m*e.n
   ·have h:i<(m+1)*e.n:=by rw[K2];omega
    simp[D,h]
   ·rw[WM D];by_cases h:i<(m+1)*e.n
    ·have u:i - m*e.n<zc.size:=by rw[K2,qq] at h;omega
     have A:i % zc.size=i - m*e.n:=by
      have G:zc.size*m=m*e.n:=by rw[E,aEe e.n m]
      have F:i % zc.size=((i - m*e.n)+zc.size*m) % zc.size:=by congr 1;omega
      rw[F,Nat.add_mul_mod_self_left,P4 u]
     simp[h,A,u]
    ·have u:zc.size<=i - m*e.n:=by rw[K2,qq] at h;omega
     have A:(Array.range ((m+1)*e.n))[i]? =none:=by simp;omega
     simp[A,u]
 rw[C];clear C
 induction m with
 |zero=>rfl
 |succ m B=>rw[aDt,aDt,aC2];exact⟨_,_,rfl,hz S w,B⟩
theorem PH{α:Type}{e:Wr α}{z:α}{zs:List α}{U E:TypeId}{ti:TypeInfo}{zv:Value}{k k':IntKind}{n:Int}{ρ S a w}(hm:mk n z=some zs)(hx:dB σ.g x=some (.v (Wr.int k) n))(hy:dB σ.g y=some (.v (Wr.int k') n))(hU:∀w,(underlying U).run F.P w= .ok (.slice E) w)
  (hI:∀w,(typeInfo E).run F.P w= .ok ti w) (hS:∀w,(sizeOf E).run F.P w= .ok e.n w) (hz:ti.zero=some zv) (V5:Nat.ble ti.bytes 4096=true) (K:p3 σ (Op.makeSlice U x y).operands ρ S a w):
  (execOp a.eval ⟨d,.makeSlice U x y,ty,p,af,gd⟩).run F.P w= .ok (.value (.slice (some ⟨w.heap.size,0,none⟩) n.toNat n.toNat)) (w.alloc (.cells (madeCells zv.cells (n.toNat*e.n)).toList.toArray E)):=by
 obtain⟨h,A,rfl⟩:=AG hm;have hx:=(fW K (x:=x) (by simp[Op.operands]) hx).1;have hy:=(fW K (x:=y) (by simp[Op.operands]) hy).1;have V5:=A6 V5;have u:=Ld hI hS
 have:=run_make (P:=F.P) w U E ti zv (qV hU) (uB hI) hz k k' n n h (aDn _) (by
  have:(ti.bytes:Int)*n<=4096*4294967296:=Int.mul_le_mul (by omega) A h (by omega)
  omega) (by omega)
 rw[u] at this;simp[execOp,hx,hy,this]
theorem Xq{α:Type}{e:Wr α}{z:α}{zs:List α}{U E:TypeId}{ti:TypeInfo}{zv:Value}{k k':IntKind}{n:Int}(i:Nat)(hm:Sw.mk n z=some zs)(hx:dB σ.g x=some (.v (Wr.int k) n))(hy:dB σ.g y=some (.v (Wr.int k') n))(hU:∀w,(underlying U).run F.P w= .ok (.slice E) w)
  (hI:∀w,(typeInfo E).run F.P w= .ok ti w) (hS:∀w,(sizeOf E).run F.P w= .ok e.n w) (hz:ti.zero=some zv) (V5:Nat.ble ti.bytes 4096=true) (fh:∀S w,e.ok z S w zv.cells.toList):JO F ⟨d,.makeSlice U x y,ty,p,af,gd⟩ σ (.ref i) [(i,.arr E e zs)]:=by
 intro ρ S a w K;have u:=PH (d:=d) (ty:=ty) (p:=p) (af:=af) (gd:=gd) hm hx hy hU hI hS hz V5 K;obtain⟨B,C,rfl⟩:=AG hm;refine VU.value u (zN (.slice (some ⟨w.heap.size,0,none⟩) n.toNat n.toNat) (lK _ _) rfl ?_ ?_ ?_)
 ·intro b h;simp only[YV,u3] at h;subst h;exact⟨YQ _,by simp⟩
 ·intro A ρ' h _;refine .inr ⟨w.heap.size,n.toNat,[],(madeCells zv.cells (n.toNat*e.n)).toList,[],by simp[LV.of],?_,GJ fh _ _ _,by simp,?_,by simp;omega⟩
  ·rw[heap_alloc_new];simp
  ·simp[size_madeCells]
 ·intro A ρ' _ hi _;simp only[Slot.ok];exact⟨by rw[hi];exact .inl ⟨_,_,_,rfl⟩,hi.symm⟩
end
end Go.Sw
namespace Go.Sw
open Go Go.RowKit
def W4{α:Type}(n:Nat)(P:Program)(T:TypeId)(e:Wr α):Prop:=∀d,n<=d->∀(w:World) (S S':Nat->Prop) (w1 w2:World) (x y:α) (cs ds:List Value),e.ok x S w1 cs->e.ok y S' w2 ds->
 ∃r,(Op.equalIn d T (e.pk cs) (e.pk ds)).run P w= .ok r w/\(r=true↔x=y)
theorem W4.int{P:Program}{T:TypeId}{k k':IntKind}(h:P.underlying T=some (.int k')):W4 1 P T (Wr.int k):=by
 intro d A w S B C D x y E F u z;obtain⟨d,rfl⟩:∃d',d=d'+1:=⟨d - 1,by omega⟩
 rw[u.1,z.1];exact⟨x==y,run_equalIn_int w d T k k' x y h,by simp⟩
theorem Xr{α:Type}{P:Program}{e:Wr α}{x:α}{S w w0}{a c b:List Value}{T:TypeId}{off:Nat}(ho:e.ok x S w0 c)(ha:a.length=off)(hA:∀w,(isAgg T).run P w= .ok e.agg w)(hS:∀w,(sizeOf T).run P w= .ok e.n w):
  (part T (a++(c++b)).toArray off).run P w= .ok (e.pk c) w:=by
 have h:=e.len ho;unfold part;simp only[Sem.run_bind,hA,Result.andThen_ok];cases G9:e.agg with
 |true=>
  simp only[l3,Sem.run_bind,hS,Result.andThen_ok,Sem.run_pure,Wr.pk,G9];congr 2;simp only[List.extract_toArray,List.extract_eq_take_drop];rw[<-ha,qu];have:a.length+e.n - a.length=c.length:=by omega
  rw[this,ze]
 |false=>
  rw[e.one G9] at h;obtain⟨v,rfl⟩:=aCf.1 h;have:(a++([v]++b)).toArray[off]? =some v:=by simp[<-ha]
  simp only[P2,j5,this,Sem.run_pure,Wr.pk,G9];rfl
theorem Pu{α:Type}{n d:Nat}{P:Program}{E:TypeId}{e:Wr α}(hd:n<=d)(he:W4 n P E e)(hA:∀w,(isAgg E).run P w= .ok e.agg w)(hS:∀w,(sizeOf E).run P w= .ok e.n w){S S':Nat->Prop}{w1 w2:World}:
  ∀(xs ys:List α) (k:Nat) (pre nm cs ds:List Value) (w:World),xs.length=ys.length->pre.length=k*e.n->nm.length=k*e.n->e.YY xs S w1 cs->e.YY ys S' w2 ds->
   ∃r,(Op.eqItems d E e.n (pre++cs).toArray (nm++ds).toArray (List.range' k xs.length)).run P w= .ok r w/\(r=true↔xs=ys)
 | [],ys,k,pre,nm,cs,ds,w,u,_,_,_,_=>by
  have:ys=[]:=ig (by simpa using u.symm);subst this;exact⟨true,by simp[Op.eqItems],by simp⟩
 |x::xs,[],k,pre,nm,cs,ds,w,u,_,_,_,_=>by simp at u
 |x::xs,y::ys,k,pre,nm,cs,ds,w,u,C,D,⟨c,K,L,z,M⟩,⟨q,N,O,A,Q⟩=>by
  subst L;subst O;obtain⟨r,F,B⟩:=he d hd w S S' w1 w2 x y c q z A;obtain⟨G,H,I⟩:=Pu hd he hA hS xs ys (k+1) (pre++c) (nm++q) K N w (by simpa using u) (by rw[sM,C,e.len z,K2,qq]) (by rw[sM,D,e.len A,K2,qq]) M Q;simp only[C8,List.range'_succ,Op.eqItems,Sem.run_bind,Xr (P:=P) (w:=w) z C hA hS,Xr (P:=P) (w:=w) A D hA hS,Result.andThen_ok,F];cases r
  ·refine⟨false,by simp,?_⟩;simp only[P2,false_iff,aCz,not_and];intro h;exact absurd (B.2 h) (by simp)
  ·refine⟨G,by simpa using H,?_⟩;rw[I];simp[B.1 rfl]
theorem W4.arr{α:Type}{n m:Nat}{P:Program}{T E:TypeId}{e:Wr α}(hT:∀w,(underlying T).run P w= .ok (.array m E) w)(hI:∀w,(sizeOf E).run P w= .ok e.n w)(hA:∀w,(isAgg E).run P w= .ok e.agg w)(he:W4 n P E e):W4 (n+1) P T (Wr.arr m e):=by
 intro d H w S I K L x y u z h A;obtain⟨d,rfl⟩:∃d',d=d'+1:=⟨d - 1,by omega⟩
 obtain⟨i,B,D⟩:∃i,P.info? E=some i/\i.size=e.n:=by
  have:=hI default;unfold sizeOf typeInfo at this;simp only[Sem.run_bind,run_program,Result.andThen_ok] at this;cases hq:P.info? E with
  |none=>rw[hq] at this;simp at this
  |some i=>rw[hq] at this;simp at this;exact⟨i,rfl,this⟩
 have C:P.cellsOf E=e.n:=by unfold Program.cellsOf;rw[B];exact D
 obtain⟨r,F,G⟩:=Pu (d:=d) (by omega) he hA hI x y 0 [] [] u z w (by rw[h.1,A.1]) (by simp) (by simp) h.2 A.2;refine⟨r,?_,G⟩;have:=run_equalIn_array (w:=w) d u.toArray z.toArray (qV hT) B;simp only[Wr.pk,show (Wr.arr m e).agg=true from rfl,l3];rw[this,C,List.range_eq_range',<-h.1];simpa using F
section
variable {F:XG}{σ:AS}{d:Option Tmp}{ty:TypeId}{p:String}{af:Array Edge}{gd:Option (Nat×Bool)}{x y:Operand}
theorem AH{α:Type}[DecidableEq α]{n:Nat}{e:Wr α}{o:BinOp}{T T':TypeId}{z z':α}{b:Bool}{ρ S a w}(ho:(o= .eql/\b=decide (z=z'))\/(o= .neq/\b= !decide (z=z')))(he:W4 n F.P T e)(hn:Nat.ble n 10000=true)(ha:e.agg=true)(hg:F.P.eqGuardType F.P.depth T=false)
  (hx:dB σ.g x=some (.v e z)) (hy:dB σ.g y=some (.v e z')) (K:p3 σ (Op.binOp o T x y T').operands ρ S a w):(execOp a.eval ⟨d,.binOp o T x y T',ty,p,af,gd⟩).run F.P w= .ok (.value (.bool b)) w:=by
 have u:=K.slot x (by simp[Op.operands]) _ hx;have A:=K.slot y (by simp[Op.operands]) _ hy;simp only[Slot.ok] at u A;obtain⟨H,I,B⟩:=u;obtain⟨L,M,C⟩:=A;obtain⟨r,D,E⟩:=he 10000 (A6 hn) w S S w w z z' H L I M;have G:r=decide (z=z'):=by
  cases r
  ·symm;simp;intro h;exact absurd (E.2 h) (by simp)
  ·symm;simp;exact E.1 rfl
 simp only[Wr.pk,ha,l3] at B C D;refine Xp (r:=r) (by rw[G];exact ho) B C (by intros;simp) (by intros;simp) (by intros;simp) (by intros;simp) ?_ D;exact run_eqGuard_agg (w:=w) o T x y _ _ hg
theorem Xs{α:Type}[DecidableEq α]{n:Nat}{e:Wr α}{T T':TypeId}{z z':α}(he:W4 n F.P T e)(hn:Nat.ble n 10000=true)(ha:e.agg=true)(hg:F.P.eqGuardType F.P.depth T=false)
  (hx:dB σ.g x=some (.v e z)) (hy:dB σ.g y=some (.v e z')):JO F ⟨d,.binOp .eql T x y T',ty,p,af,gd⟩ σ (.v Wr.bool (decide (z=z'))) []:=
 fun ρ S _ w K=>VU.value (w':=w) (AH (.inl ⟨rfl,rfl⟩) he hn ha hg hx hy K) (XV.same (nL _ ρ S w))
theorem Rt{α:Type}[DecidableEq α]{n:Nat}{e:Wr α}{T T':TypeId}{z z':α}(he:W4 n F.P T e)(hn:Nat.ble n 10000=true)(ha:e.agg=true)(hg:F.P.eqGuardType F.P.depth T=false)
  (hx:dB σ.g x=some (.v e z)) (hy:dB σ.g y=some (.v e z')):JO F ⟨d,.binOp .neq T x y T',ty,p,af,gd⟩ σ (.v Wr.bool (!decide (z=z'))) []:=
 fun ρ S _ w K=>VU.value (w':=w) (AH (.inr ⟨rfl,rfl⟩) he hn ha hg hx hy K) (XV.same (nL _ ρ S w))
end
end Go.Sw
namespace Go.Sw
open Go Go.RowKit
def fO:Nat:=1125899906842624
inductive Ex (α β:Type) where
 | WN (x:α)
 |ret (r:β)
def lp{α β γ:Type}(step:α->Option (Step α (Ex β γ)))(x:α)(k:β->Option γ):Option γ:=
 match loop step fO x with
 |none=>none
 |some (.WN y)=>k y
 |some (.ret z)=>some z
def jp{β γ:Type}(k:β->Option γ)(body:(β->Option γ)->Option γ):Option γ:=body k
theorem cF{α β γ:Type}{step:α->Option (Step α (Ex β γ))}{x:α}{k:β->Option γ}{r:γ}(h:lp step x k=some r):
  ∃o,loop step fO x=some o/\(∀y,o= .WN y->k y=some r)/\(∀z,o= .ret z->z=r):=by
 unfold lp at h;cases hl:loop step fO x with
 |none=>rw[hl] at h;cases h
 |some o=>
  rw[hl] at h;refine⟨o,rfl,?_,?_⟩
  ·rintro y rfl;exact h
  ·rintro z rfl;exact pT h
theorem gT{β γ:Type}{k:β->Option γ}{body:(β->Option γ)->Option γ}{r:γ}(h:jp k body=some r):∃K,K=k/\body K=some r:=⟨k,rfl,h⟩
theorem kG{α:Type}{c:Bool}{x y:Option α}{r:α}(hc:c=true)(h:(bif c then x else y)=some r):x=some r:=by subst hc;exact h
theorem kH{α:Type}{c:Bool}{x y:Option α}{r:α}(hc:c=false)(h:(bif c then x else y)=some r):y=some r:=by subst hc;exact h
theorem aB{α β:Type}{x:Option α}{f:α->Option β}{r:β}(h:x.bind f=some r):∃a,x=some a/\f a=some r:=Option.bind_eq_some_iff.1 h
def rn:List (Nat×Nat)->Nat->Nat
 | [],i=>i
 | (a,b)::r,i=>bif Nat.beq a i then b else rn r i
section
variable {F:XG}{cs:List Code}{σ σ':AS}{Q:Exit->Act->World->Prop}{α β γ:Type}
theorem vM{c:Tmp}{x y:Code}{b:Bool}(hb:lk σ.g c=some (.v Wr.bool b))(hc:b=true)(ht:W F (x::cs) σ Q):W F (.cond (.tmp c) x y::cs) σ Q:=by
 subst hc;exact Fw hb (fun _=>ht) (fun h=>by cases h)
theorem Av{c:Tmp}{x y:Code}{b:Bool}(hb:lk σ.g c=some (.v Wr.bool b))(hc:b=false)(ht:W F (y::cs) σ Q):W F (.cond (.tmp c) x y::cs) σ Q:=by
 subst hc;exact Fw hb (fun h=>by cases h) (fun _=>ht)
def LB(F:XG)(id:Nat)(σs:α->AS)(σx:β->AS)(o:Ex β γ)(Q:Exit->Act->World->Prop):Step α (Ex β γ)->Exit->Act->World->Prop
 | .next y,.normal,a,w=>St F (σs y) a w
 | .next _,_,_,_=>False
 | .done (.WN x),.exit i,a,w=>i=id/\(o= .WN x->St F (σx x) a w)
 | .done (.WN _),_,_,_=>False
 | .done (.ret _),.normal,_,_=>False
 | .done (.ret z),.exit i,a,w=>i≠id/\(o= .ret z->Q (.exit i) a w)
 | .done (.ret z),e,a,w=>o= .ret z->Q e a w
theorem jN{id:Nat}{body:Code}{σs:α->AS}{step:α->Option (Step α (Ex β γ))}{x:α}{o:Ex β γ}(σx:β->AS)(hm:Sw.loop step fO x=some o)(h0:Sub F σ (σs x))
  (hk:∀y,o= .WN y->W F cs (σx y) Q) (h:∀y r,step y=some r->W F [body] (σs y) (LB F id σs σx o Q r)):W F (.block id (.loop body)::cs) σ Q:=by
 refine bQ (PC (b:=o) hm h0 fun y r B a w C=>?_);refine wpIn_mono (h y r B a w C) ?_;intro e a w u;cases r with
 |next z=>cases e<;>simp only[LB,LQ,Exit.then,run] at u ⊢<;>exact u
 |done b=>
  cases b with
  | WN z=>
   cases e<;>simp only[LB,LQ,Exit.then,run] at u ⊢;intro A;obtain⟨rfl,u⟩:=u;simp only[Exit.inBlock,l3];exact hk z A.symm a w (u A.symm)
  |ret z=>
   cases e<;>simp only[LB,LQ,Exit.then,run] at u ⊢<;>intro A<;>first
    | (obtain⟨D,u⟩:=u;simp only[Exit.inBlock,WM D];exact u A.symm)
    |exact u A.symm
theorem cR{id:Nat}{σs:α->AS}{σx:β->AS}{o:Ex β γ}{y:α}(h:Sub F σ (σs y)):W F [] σ (LB F id σs σx o Q (.next y)):=fun a w u=>h a w u
theorem dM{id:Nat}{σs:α->AS}{σx:β->AS}{o:Ex β γ}{y:β}(h:Sub F σ (σx y)):XQ F σ (LB F id σs σx o Q (.done (.WN y))) (.exit id):=fun a w u=>⟨rfl,fun _=>h a w u⟩
theorem gB{id:Nat}{σs:α->AS}{σx:β->AS}{o:Ex β γ}{z:γ}(h:o= .ret z->XQ F σ Q .ret):XQ F σ (LB F id σs σx o Q (.done (.ret z))) .ret:=fun a w u A=>h A a w u
def JQ(F:XG)(σx:β->AS)(P:β->Prop)(Q:Exit->Act->World->Prop):Exit->Act->World->Prop
 | .normal,a,w=>∃x,P x/\St F (σx x) a w
 |e,a,w=>Q e a w
theorem vT{c:Tmp}{x y:Code}{b:Bool}(σx:β->AS)(P:β->Prop)(hb:lk σ.g c=some (.v Wr.bool b))(hk:∀x,P x->W F cs (σx x) Q)(ht:b=true->W F [x] σ (JQ F σx P Q))(hf:b=false->W F [y] σ (JQ F σx P Q)):W F (.cond (.tmp c) x y::cs) σ Q:=by
 refine Fw hb (fun u a w A=>?_) (fun u a w A=>?_)
 ·refine wpIn_mono (ht u a w A) ?_;intro e a w h;cases e<;>simp only[Exit.then,run,JQ] at h ⊢<;>first | exact h | (obtain⟨z,B,C⟩:=h;exact hk z B a w C)
 ·refine wpIn_mono (hf u a w A) ?_;intro e a w h;cases e<;>simp only[Exit.then,run,JQ] at h ⊢<;>first | exact h | (obtain⟨z,B,C⟩:=h;exact hk z B a w C)
theorem cT{σx:β->AS}{P:β->Prop}{z:β}(hz:P z)(h:Sub F σ (σx z)):W F [] σ (JQ F σx P Q):=fun a w u=>⟨z,hz,h a w u⟩
theorem Hb{σx:β->AS}{P:β->Prop}(h:XQ F σ Q .ret):XQ F σ (JQ F σx P Q) .ret:=h
theorem J.fin{ops:Array Oper}(h:Sub F σ σ'):J F ops [] σ σ':=fun _ _ a w u z=>z a w (h a w u)
end
theorem dX{P:Program}{N:Nat}{S:Nat->Prop}{w:World}:∀k,¬(XG.R ⟨P,N,S,w,fun _=>False,none,[]⟩ k):=fun _ h=>h
end Go.Sw
namespace Go.Sw
open Go Go.RowKit
section
variable {F:XG}{cs:List Code}{σ σ':AS}{Q:Exit->Act->World->Prop}{α β γ:Type}{ops:Array Oper}{os:List Oper}
theorem GK.met{g:List (Nat×Slot)}{o:Oper}{j:Nat}{want:Bool}(t:Tmp){x:Bool}(h:o.guard= .some (j,want))(ht:(ops[j]?).bind (·.dst)= .some t)
  (hx:lk g t= .some (.v Wr.bool x)) (hb:x=want):GK ops g o true:=GK.some t x true h ht hx (by subst hb;simp)
theorem GK.H7{g:List (Nat×Slot)}{o:Oper}{j:Nat}{want:Bool}(t:Tmp){x:Bool}(h:o.guard= .some (j,want))(ht:(ops[j]?).bind (·.dst)= .some t)
  (hx:lk g t= .some (.v Wr.bool x)) (hb:x= !want):GK ops g o false:=GK.some t x false h ht hx (by subst hb;simp)
theorem Is{c:Code}(h:W F cs σ' Q->W F (c::cs) σ Q)(k:W F cs σ' Q):W F (c::cs) σ Q:=h k
theorem bZ{e:Exit}(h:Sub F σ σ')(k:XQ F σ' Q e):XQ F σ Q e:=fun a w u=>k a w (h a w u)
def BQ(F:XG)(id:Nat)(σx:β->AS)(P:β->Prop)(Q:Exit->Act->World->Prop):Exit->Act->World->Prop
 | .normal,a,w=>∃x,P x/\St F (σx x) a w
 | .exit i,a,w=>if i=id then∃x,P x/\St F (σx x) a w else Q (.exit i) a w
 |e,a,w=>Q e a w
theorem TS{id:Nat}{body:Code}(σx:β->AS)(P:β->Prop)(hk:∀x,P x->W F cs (σx x) Q)(h:W F [body] σ (BQ F id σx P Q)):W F (.block id body::cs) σ Q:=by
 refine bQ fun a w D=>wpIn_mono (h a w D) ?_;intro e a w u;cases e<;>simp only[Exit.then,run,BQ,Exit.inBlock] at u ⊢<;>first
  |exact u
  | (obtain⟨z,B,C⟩:=u;exact hk z B a w C)
  | (
    split at u
    ·rename_i A;rw[WV A];obtain⟨z,B,C⟩:=u;exact hk z B a w C
    ·rename_i A;rw[WM A];exact u)
theorem LM{id:Nat}{σx:β->AS}{P:β->Prop}{z:β}(hz:P z)(h:Sub F σ (σx z)):W F [] σ (BQ F id σx P Q):=fun a w u=>⟨z,hz,h a w u⟩
theorem LN{id:Nat}{σx:β->AS}{P:β->Prop}{z:β}(hz:P z)(h:Sub F σ (σx z)):XQ F σ (BQ F id σx P Q) (.exit id):=fun a w u=>by
 simp only[BQ,l3];exact⟨z,hz,h a w u⟩
end
section
variable {F:XG}{σ:AS}{pb:Option Nat}{s:Slot}{d:Option Tmp}{ty:TypeId}{p:String}{af:Array Edge}{gd:Option (Nat×Bool)}{x y c:Operand}
theorem xJ{b:Bool}(hb:b=true)(hc:dB σ.g c=some (.v Wr.bool b))(hx:dB σ.g x=some s):JO F ⟨d,.pick c x y,ty,p,af,gd⟩ σ s []:=by subst hb;exact FY hc hx
theorem uC{b:Bool}(hb:b=false)(hc:dB σ.g c=some (.v Wr.bool b))(hy:dB σ.g y=some s):JO F ⟨d,.pick c x y,ty,p,af,gd⟩ σ s []:=by subst hb;exact FZ hc hy
def OO(k k':IntKind):Bool:=decide (k'.min<=k.min) && decide (k.max<=k'.max)
theorem Aw{k:IntKind}{n:Int}(h:Ea k n):k.wrap n=n:=by
 unfold Ea at h;cases k<;>simp[IntKind.min,IntKind.max,IntKind.signed,IntKind.bits] at h<;>simp[IntKind.wrap,IntKind.signed,IntKind.bits]<;>omega
theorem mL{A B:TypeId}{da:TypeDesc}{k k':IntKind}{n:Int}(ha:∀w,(underlying A).run F.P w= .ok da w)(hb:∀w,(underlying B).run F.P w= .ok (.int k') w)(hx:dB σ.g x=some (.v (Wr.int k) n))(hw:OO k k'=true):
  JO F ⟨d,.convert A B x,ty,p,af,gd⟩ σ (.v (Wr.int k') n) []:=by
 intro ρ S a w K;have u:=(fW K (x:=x) (by simp[Op.operands]) hx).2;have h:=AA (ty:=ty) (p:=p) (d:=d) (af:=af) (gd:=gd) ha hb hx ρ S a w K;have:k'.wrap n=n:=by
  refine Aw ?_;simp[OO] at hw;unfold Ea at*;omega
 rw[this] at h;exact h
def nz(n:Int):Option Unit:=if n=0 then none else some ()
theorem AI{n:Int}{u:Unit}(h:nz n=some u):n≠0:=by unfold nz at h;split at h<;>simp_all
def nn(n:Int):Option Unit:=if 0<=n then some () else none
theorem AJ{n:Int}{u:Unit}(h:nn n=some u):0<=n:=by unfold nn at h;split at h<;>simp_all
theorem Xt{c:Nat}{ρ:Nat->LV}{a:Act}{w:World}(hc:Core F σ.d ρ w)(hs:∀t s,lk σ.g t=some s->s.ok ρ (Un F.S0 ρ σ.d) w (a.tmps.getD t undef)){i off:Nat}{T:TypeId}{l:List Slot}(hx:lk σ.g c=some (.ptr i off))(he:aW σ.d i=some (.box T l pb)):
  ∃b cs,a.tmps.getD c undef= .pointer (some ⟨b,off,none⟩)/\w.heap[b]? =some (.cells cs.toArray T (0,0))/\bN ρ (Un F.S0 ρ σ.d) w l cs:=by
 obtain⟨b,cs,_,h,u,z⟩:=zP (x:= .tmp c) (xs:= #[.tmp c]) (cI hc hs #[.tmp c]) (by simp) hx he;exact⟨b,cs,h,u,z⟩
theorem aT{α:Type}{e:Wr α}{z:α}{T U:TypeId}{l:List Slot}{i c:Nat}(hx:lk σ.g c=some (.ptr i 0))(he:aW σ.d i=some (.box T l pb))(hl:M5 l e z)
  (hA:∀w,(isAgg U).run F.P w= .ok e.agg w) (hS:∀w,(sizeOf U).run F.P w= .ok e.n w):RV F σ (.cell c U) (.v e z):=by
 intro ρ a w hc hs;obtain⟨b,h,A,B,C⟩:=Xt hc hs hx he;have u:=(hl ρ _ w h).1 C;refine⟨e.pk h,?_,by simp only[Slot.ok];exact⟨h,u,rfl⟩⟩;have:=Fx (P:=F.P) (WC.of_heap B) u hA hS;simp[wL,A,asAddr,this]
theorem Fy{T U:TypeId}{l:List Slot}{i c n:Nat}(hx:lk σ.g c=some (.ptr i 0))(he:aW σ.d i=some (.box T l pb))(hn:(l.map Slot.sz).sum=n)
  (hA:∀w,(isAgg U).run F.P w= .ok true w) (hS:∀w,(sizeOf U).run F.P w= .ok n w):RV F σ (.cell c U) (.agg l):=by
 intro ρ a w hc hs;obtain⟨b,h,B,z,u⟩:=Xt hc hs hx he;have A:h.length=n:=by
  rw[<-hn];clear hn hS hx he z
  induction l generalizing h with
  |nil=>simp only[bN] at u;simp[u]
  |cons t l E=>
   simp only[bN] at u;obtain⟨c,d,rfl,C,D⟩:=u;rw[sM,nM C,E d D];simp
 refine⟨.agg h.toArray,?_,by simp only[Slot.ok];exact⟨h,rfl,u⟩⟩;have:(loadVar U ⟨b,0,none⟩).run F.P w= .ok (.agg h.toArray) w:=by
  unfold loadVar;simp only[Sem.run_bind,hA,Result.andThen_ok,l3,hS];rw[<-A,run_loadCells_list w _ h (WC.of_heap z).cell];simp
 simp[wL,B,asAddr,this]
theorem cN{T U:TypeId}{l:List Slot}{i c:Nat}(hx:lk σ.g c=some (.ptr i 0))(he:aW σ.d i=some (.box T l pb))(ho:nJ l 0=some s)
  (hA:∀w,(isAgg U).run F.P w= .ok s.ag w) (hS:∀w,(sizeOf U).run F.P w= .ok s.sz w):RV F σ (.cell c U) s:=by
 intro ρ a w hc hs;obtain⟨b,H,B,C,D⟩:=Xt hc hs hx he;obtain⟨E,c',I,rfl,G,z,_⟩:=uY ho D;have h:WC w b E.length c':=by have:=(WC.of_heap C).sub;simpa using this
 have u:=nM z;refine⟨if s.ag then .agg c'.toArray else c'.headD undef,?_,AD z⟩;have:(loadVar U ⟨b,0,none⟩).run F.P w= .ok (if s.ag then .agg c'.toArray else c'.headD undef) w:=by
  rw[<-G];unfold loadVar;simp only[Sem.run_bind,hA,Result.andThen_ok];cases ha:s.ag with
  |true=>
   simp only[l3,Sem.run_bind,hS,Result.andThen_ok];rw[<-u,run_loadCells_list w _ c' h.cell];simp
  |false=>
   have A:c'.length=1:=by
    rw[u];cases s<;>simp only[Slot.ag,Slot.sz] at ha ⊢;exact Wr.one _ ha
   obtain⟨v,rfl⟩:=aCf.1 A;have:=h.cell 0 v rfl;simp[Addr.add] at this;simp[this]
 simp[wL,B,asAddr,this]
end
end Go.Sw
namespace Go.Sw
open Go Go.RowKit
def fP{α β:Type}[DecidableEq α]:List (α×β)->α->Option β
 | [],_=>none
 | (a,b)::m,k=>if a=k then some b else fP m k
def Hc{α β:Type}[DecidableEq α](m:List (α×β))(k:α)(v:β):Option (List (α×β)):=match fP m k with | none=>some (m++[(k,v)]) | some _=>none
theorem Pv{α β:Type}[DecidableEq α]{m m':List (α×β)}{k:α}{v:β}(h:Hc m k v=some m'):fP m k=none/\m'=m++[(k,v)]:=by
 unfold Hc at h;cases hm:fP m k with
 |none=>rw[hm] at h;exact⟨rfl,by simpa using h.symm⟩
 |some b=>rw[hm] at h;cases h
def p8{α:Type}(n:Nat)(P:Program)(T:TypeId)(e:Wr α):Prop:=∀d,n<=d->∀(em:Bool) (w:World) (S:Nat->Prop) (w1:World) (x:α) (cs:List Value),e.ok x S w1 cs->(Instr.checkKey em d T (e.pk cs)).run P w= .ok () w
theorem p8.int{P:Program}{T:TypeId}{k k':IntKind}(h:∀w,(underlying T).run P w= .ok (.int k') w):p8 1 P T (Wr.int k):=by
 intro d z A w S B x C u;obtain⟨d,rfl⟩:∃d',d=d'+1:=⟨d - 1,by omega⟩
 rw[u.1];simp[Instr.checkKey,h,Wr.pk,Wr.int]
theorem Md{α:Type}{n d:Nat}{P:Program}{E:TypeId}{e:Wr α}{em:Bool}(hd:n<=d)(he:p8 n P E e)(hA:∀w,(isAgg E).run P w= .ok e.agg w)(hS:∀w,(sizeOf E).run P w= .ok e.n w){S:Nat->Prop}{w1:World}:
  ∀(xs:List α) (k:Nat) (pre cs:List Value) (w:World),pre.length=k*e.n->e.YY xs S w1 cs->
   (forIn (List.range' k xs.length) PUnit.unit fun i (_:PUnit)=>do
    let s<-sizeOf E
    let v<-part E (pre++cs).toArray (i*s)
    Instr.checkKey em d E v
    pure (ForInStep.yield PUnit.unit):Sem PUnit).run P w= .ok () w
 | [],k,pre,cs,w,_,_=>by simp
 |x::xs,k,pre,cs,w,z,⟨c,A,C,h,D⟩=>by
  subst C;have u:=Md (em:=em) hd he hA hS xs (k+1) (pre++c) A w (by rw[sM,z,e.len h,K2,qq]) D;have B:=Xr (P:=P) (w:=w) (b:=A) h z hA hS;rw[C9] at u;simp only[C8,List.range'_succ,List.forIn_cons,Sem.run_bind,hS,Result.andThen_ok,B,he d hd em w S w1 x c h];simpa using u
theorem p8.arr{α:Type}{n m:Nat}{P:Program}{T E:TypeId}{e:Wr α}(hT:∀w,(underlying T).run P w= .ok (.array m E) w)(hS:∀w,(sizeOf E).run P w= .ok e.n w)(hA:∀w,(isAgg E).run P w= .ok e.agg w)(he:p8 n P E e):p8 (n+1) P T (Wr.arr m e):=by
 intro d A em w S B x z u;obtain⟨d,rfl⟩:∃d',d=d'+1:=⟨d - 1,by omega⟩
 have h:=Md (em:=em) (d:=d) (by omega) he hA hS x 0 [] z w (by simp) u.2;rw[u.1] at h;simp only[Instr.checkKey,Sem.run_bind,hT,Result.andThen_ok,Wr.pk,Wr.arr,l3];simp[Std.Legacy.Range.forIn_eq_forIn_range',Std.Legacy.Range.size] at h ⊢;rw[h];rfl
theorem AK{α β:Type}[DecidableEq α]{n:Nat}{P:Program}{T:TypeId}{e:Wr α}{f:Wr β}(hn:n<=10000)(he:W4 n P T e){S S':Nat->Prop}{w1 w2:World}{k:α}{cs:List Value}(hk:e.ok k S' w2 cs)(w:World):
  ∀(m:List (α×β)) (es:List MapEntry) (i:Nat),Xl e f S w1 m es->∃r,(Instr.findAsking T (e.pk cs) es i).run P w= .ok r w/\(fP m k=none->r=none)/\(∀b,fP m k=some b->∃j v,r=some (j,v)/\f.val b S w1 v)
 | [],[],i,_=>⟨none,by simp[Instr.findAsking],fun _=>rfl,fun b h=>by simp[fP] at h⟩
 | (a,b)::m,x::xs,i,⟨⟨G,H,I⟩,K,L⟩=>by
  obtain⟨r,B,C⟩:=he 10000 hn w S' S w2 w1 k a cs G hk H;rw[<-I] at B;have z:(Op.equal T (e.pk cs) x.key).run P w= .ok r w:=B;cases r with
  |true=>
   have u:=C.1 rfl;refine⟨some (i,x.val),by simp[Instr.findAsking,z],fun h=>?_,fun A h=>?_⟩
   ·simp[fP,u] at h
   ·simp[fP,u] at h;subst h;exact⟨i,x.val,rfl,K⟩
  |false=>
   have u:¬a=k:=fun h=>by have:=C.2 h.symm;cases this
   obtain⟨r,D,E,F⟩:=AK hn he hk w m xs (i+1) L;refine⟨r,by simp[Instr.findAsking,z,D],fun h=>?_,fun A h=>?_⟩
   ·simp[fP,u] at h;exact E h
   ·simp[fP,u] at h;exact F A h
 | [],_::_,_,h=>h.elim
 |_::_,[],_,h=>h.elim
theorem It{α β:Type}[DecidableEq α]{n l:Nat}{E:TypeId}{P:Program}{T:TypeId}{e:Wr α}{f:Wr β}(hn:n<=10000)(hT:∀w,(underlying T).run P w= .ok (.array l E) w)(he:W4 n P T e){S S':Nat->Prop}{w1 w2:World}{k:α}{cs:List Value}(hk:e.ok k S' w2 cs)(w:World)
  (m:List (α×β)) (es:List MapEntry) (h:Xl e f S w1 m es):∃r,(Instr.findKey T (e.pk cs) es).run P w= .ok r w/\(fP m k=none->r=none)/\(∀b,fP m k=some b->∃j v,r=some (j,v)/\f.val b S w1 v):=by
 match m,es,h with
 | [],[],_=>exact⟨none,by simp[Instr.findKey,hT,Instr.findNow],fun _=>rfl,fun b h=>by simp[fP] at h⟩
 |q::m,x::xs,h=>
  obtain⟨r,u,z⟩:=AK hn he hk w (q::m) (x::xs) 0 h;refine⟨r,?_,z⟩;simp[Instr.findKey,hT,Instr.findNow,Instr.sameNow,u]
section
variable {F:XG}{σ:AS}{d:Option Tmp}{ty:TypeId}{p:String}{af:Array Edge}{gd:Option (Nat×Bool)}{x y z:Operand}
theorem Fz{α β:Type}{T:TypeId}(i:Nat)(e:Wr α)(f:Wr β):JO F ⟨d,.makeMap T none,ty,p,af,gd⟩ σ (.ref i) [(i,.mp e f [])]:=by
 intro ρ S a w K;refine VU.value (w':=w.alloc (.map #[] 0)) (v:= .map (some w.heap.size)) (by simp[execOp,Instr.makeMap]) ?_;refine zN (.map (some w.heap.size)) (lK _ _) rfl ?_ ?_ ?_
 ·intro b u;simp[YV] at u;subst u;exact⟨YQ _,by simp⟩
 ·intro z ρ' h _;exact⟨_,#[],0,rfl,heap_alloc_new _ _,trivial⟩
 ·intro z ρ' _ hi _;simp only[Slot.ok];exact⟨by rw[hi];exact .inr ⟨_,rfl⟩,hi.symm⟩
theorem CQ{α β:Type}[DecidableEq α]{n n' l:Nat}{M KT VT E:TypeId}{e:Wr α}{f:Wr β}{m:List (α×β)}{i:Nat}{k:α}{u:β}{zv:Value}(hx:dB σ.g x=some (.ref i))(hd:aW σ.d i=some (.mp e f m))(hy:dB σ.g y=some (.v e k))
  (hM:∀w,(underlying M).run F.P w= .ok (.map KT VT) w) (hT:∀w,(underlying KT).run F.P w= .ok (.array l E) w) (he:W4 n F.P KT e) (hn:Nat.ble n 10000=true) (hk:p8 n' F.P KT e) (H5:Nat.ble n' 10000=true)
  (hz:∀w,(zeroValue VT).run F.P w= .ok zv w) (fh:∀S w,f.val u S w zv):JO F ⟨d,.lookup M x y false,ty,p,af,gd⟩ σ (.v f ((fP m k).getD u)) []:=by
 intro ρ S a w K;obtain⟨B,I,_⟩:=yM K (x:=x) (by simp[Op.operands]) hx hd;obtain⟨b,C,V,D,L,N⟩:=I;have h:=K.slot y (by simp[Op.operands]) _ hy;simp only[Slot.ok] at h;obtain⟨O,h,G⟩:=h;obtain⟨r,H,Q,R⟩:=It (A6 hn) hT he h w m C.toList N;have z:=hk 10000 (A6 H5) C.isEmpty w S w k O h;have A:=MapKept.run_getObj_map (P:=F.P) L;cases hm:fP m k with
 |none=>
  have:=Q hm;subst this;refine VU.value (w':=w) (v:=zv) ?_ (XV.same (by simp only[Slot.ok];exact fh _ _));simp[execOp,B,D,G,Instr.lookup,hM,A,z,H,hz]
 |some U=>
  obtain⟨j,v,rfl,T⟩:=R U hm;refine VU.value (w':=w) (v:=v) ?_ (XV.same (by simp only[Slot.ok];exact T));simp[execOp,B,D,G,Instr.lookup,hM,A,z,H]
theorem Me{α β:Type}{e:Wr α}{f:Wr β}{S:Nat->Prop}{w:World}{k:α}{v:β}{x:MapEntry}(h1:e.val k S w x.key)(h2:f.val v S w x.val):∀{m:List (α×β)} {xs:List MapEntry},Xl e f S w m xs->Xl e f S w (m++[(k,v)]) (xs++[x])
 | [],[],_=>⟨h1,h2,trivial⟩
 | (_,_)::_,_::_,⟨u,z,A⟩=>⟨u,z,Me h1 h2 A⟩
 | [],_::_,h=>h.elim
 |_::_,[],h=>h.elim
theorem CR{α β:Type}[DecidableEq α]{n n' l:Nat}{M KT VT E:TypeId}{e:Wr α}{f:Wr β}{m m':List (α×β)}{i:Nat}{k:α}{v:β}(hm:Hc m k v=some m')(hx:dB σ.g x=some (.ref i))(hd:aW σ.d i=some (.mp e f m))(hy:dB σ.g y=some (.v e k))(hz:dB σ.g z=some (.v f v))
  (hM:∀w,(underlying M).run F.P w= .ok (.map KT VT) w) (hT:∀w,(underlying KT).run F.P w= .ok (.array l E) w) (he:W4 n F.P KT e) (hn:Nat.ble n 10000=true) (hk:p8 n' F.P KT e) (H5:Nat.ble n' 10000=true):
  JM F ⟨none,.mapUpdate M x y z,ty,p,af,gd⟩ σ ⟨σ.g,(i,.mp e f m')::σ.d⟩:=by
 obtain⟨U,rfl⟩:=Pv hm;refine pZ hd rfl fun ρ a w S T=>?_;have K:=cI S T (Op.mapUpdate M x y z).operands;obtain⟨V,X,_⟩:=yM K (x:=x) (by simp[Op.operands]) hx hd;obtain⟨b,B,u,C,D,I⟩:=X;have h:=K.slot y (by simp[Op.operands]) _ hy;have G:=K.slot z (by simp[Op.operands]) _ hz;simp only[Slot.ok] at h G;have L:=h;obtain⟨cs,h,vn⟩:=h;obtain⟨r,h8,h9,_⟩:=It (A6 hn) hT he h w m B.toList I;have N:=h9 U;subst N;have O:=hk 10000 (A6 H5) false w _ w k cs h;have Q:=MapKept.run_getObj_map (P:=F.P) D;have R:=fun o=>MapKept.run_setObj_map (P:=F.P) o D;have H:=MapKept.heap_set (o':= .map (B.push { key:=a.eval y,val:=a.eval z,born:=u }) (u+1)) D;refine⟨b,{ w with heap:=w.heap.setIfInBounds b (.map (B.push { key:=a.eval y,val:=a.eval z,born:=u }) (u+1)) },.inl (by rw[C];rfl),⟨by simp,H.2,rfl,rfl,rfl⟩,?_,fun A=>?_⟩
 ·simp[execOp,V,C,vn,Instr.mapUpdate,hM,Q,O,h8,R]
 ·refine⟨b,_,_,C,H.1,?_⟩;rw[aDl];exact Me (gS L A) (gS G A) (zK A I)
end
end Go.Sw
namespace Go.Sw
open Go Go.RowKit
inductive P6 (P:Program):List Field->List (Nat×Nat)->Prop
 |nil:P6 P [] []
 |cons {f:Field} {fs:List Field} {n off:Nat} {l:List (Nat×Nat)}:f.offset=off->P.cellsOf f.type=n->(P.info? f.type).isSome=true->P6 P fs l->P6 P (f::fs) ((off,n)::l)
theorem P6.mapM{P:Program}{fs:List Field}{l:List (Nat×Nat)}(h:P6 P fs l):(fs.mapM fun f=>(P.info? f.type).map fun i=>(f.offset,i.size))=some l:=by
 induction h with
 |nil=>rfl
 |cons A u z _ B=>
  rename_i f fs n C l _;rw[zf,B];unfold Program.cellsOf at u;cases hi:P.info? f.type with
  |none=>rw[hi] at z;cases z
  |some i=>rw[hi] at u;simp at u;simp[A,u]
theorem dG{P:Program}{T:TypeId}{ti:TypeInfo}{fs:Array Field}{l:List (Nat×Nat)}{z:Value}{zs:List Value}(hI:∀w,(typeInfo T).run P w= .ok ti w)(hU:∀w,(underlying T).run P w= .ok (.struct fs) w)(hz:ti.zero=some z)(hc:z.cells=zs.toArray)
  (hp:P6 P fs.toList l):∀parts,P.built T parts=Instr.fill (l.toArray[·]?) zs.toArray parts:=by
 intro parts;unfold Program.built;rw[uB hI,qV hU];simp only[hz,hp.mapM,hc]
theorem Xu{P:Program}{T:TypeId}{ti:TypeInfo}{de:TypeDesc}{z:Value}(hI:∀w,(typeInfo T).run P w= .ok ti w)(hU:∀w,(underlying T).run P w= .ok de w)(hz:ti.zero=some z)(hd:(∃n E iE,de= .array n E/\P.info? E=some iE)):P.built T []=some z.cells:=by
 obtain⟨n,E,iE,rfl,h⟩:=hd;unfold Program.built;rw[uB hI,qV hU];simp only[hz,h];rfl
section
variable {F:XG}{σ:AS}{pb:Option Nat}{s:Slot}{d:Option Tmp}{ty:TypeId}{p:String}{af:Array Edge}{gd:Option (Nat×Bool)}{x y z:Operand}
theorem dA{α:Type}{e:Wr α}{v:α}{T E:TypeId}{n:Nat}{ti tE:TypeInfo}{cs:List Value}(hI:∀w,(typeInfo T).run F.P w= .ok ti w)(hU:∀w,(underlying T).run F.P w= .ok (.array n E) w)(hE:∀w,(typeInfo E).run F.P w= .ok tE w)(hz:ti.zero=some (.agg cs.toArray))(ha:e.agg=true)(hv:∀S w,e.ok v S w cs):
  JO F ⟨d,.build T #[],ty,p,af,gd⟩ σ (.v e v) []:=by
 intro ρ S a w K;have h:=Xu hI hU hz ⟨n,E,tE,rfl,uB hE⟩;refine VU.value (w':=w) (v:= .agg cs.toArray) ?_ (XV.same (by simp only[Slot.ok];exact⟨cs,hv _ _,by simp[Wr.pk,ha]⟩));have:=run_build (P:=F.P) w T #[] cs.toArray (by simpa[Value.cells] using h);simp only[execOp,aDd];simp[this]
def sub{α:Type}(xs:List α)(lo hi:Int):Option (List α):=if 0<=lo/\lo<=hi/\hi<=xs.length then some ((xs.take hi.toNat).drop lo.toNat) else none
theorem gW{α:Type}{xs ys:List α}{lo hi:Int}(h:sub xs lo hi=some ys):0<=lo/\lo<=hi/\hi<=xs.length/\ys=(xs.take hi.toNat).drop lo.toNat:=by
 unfold sub at h;split at h
 ·rename_i u;cases h;exact⟨u.1,u.2.1,u.2.2,rfl⟩
 ·cases h
theorem vU{α:Type}{e:Wr α}{S w}:∀{xs:List α} {cs:List Value} (n:Nat),e.YY xs S w cs->e.YY (xs.drop n) S w (cs.drop (n*e.n))
 |xs,cs,0,h=>by simpa using h
 | [],cs,n+1,h=>by
  have:cs=[]:=h;subst this;simpa using h
 |x::xs,cs,n+1,⟨c,d,A,B,C⟩=>by
  subst A;have:=vU n C;have u:=e.len B;rw[aEf,zm (n*e.n),<-u,aD5,u];have z:c.drop (e.n+n*e.n)=[]:=aDz (by omega);rw[z];simpa using this
theorem sP{α:Type}{e:Wr α}{S w}:∀{xs:List α} {cs:List Value} (n:Nat),e.YY xs S w cs->e.YY (xs.take n) S w (cs.take (n*e.n))
 |xs,cs,0,h=>by simp;rfl
 | [],cs,n+1,h=>by
  have:cs=[]:=h;subst this;simpa using h
 |x::xs,cs,n+1,⟨c,d,B,z,C⟩=>by
  subst B;have:=sP n C;have u:=e.len z;refine⟨c,d.take (n*e.n),?_,z,this⟩;rw[aEf,zm (n*e.n),<-u,List.take_append,u];have A:c.take (e.n+n*e.n)=c:=aB0 (by omega);rw[A];simp
theorem WC.drop{w:World}{b off:Nat}{ds:List Value}(n:Nat)(h:WC w b off ds):WC w b (off+n) (ds.drop n):=by
 obtain⟨c,T,z,A,B⟩:=h;refine⟨c,T,z,A,fun j u=>?_⟩;have:=B (n+j) (by simp at u;omega);rw[List.getElem_drop,<-this];congr 1;omega
theorem WC.take{w:World}{b off:Nat}{ds:List Value}(n:Nat)(h:WC w b off ds):WC w b off (ds.take n):=by
 obtain⟨c,T,z,A,B⟩:=h;refine⟨c,T,z,A,fun j u=>?_⟩;rw[List.getElem_take];exact B j (by simp at u;omega)
theorem GL{α:Type}{e:Wr α}{xs ys:List α}{lo hi:Int}{S:Nat->Prop}{w:World}{a:Option Addr}{cap:Nat}(hs:sub xs lo hi=some ys)(hl:xs.length<=cap/\xs.length<=140737488355328)
  (h:xs=[]\/∃b off ds,a=some ⟨b,off,none⟩/\b<w.heap.size/\¬S b/\WC w b off ds/\e.YY xs S w ds):
  (Wr.sl e).val ys S w (.slice (if cap=lo.toNat then a else a.map (·.add (lo.toNat*e.n))) (hi.toNat - lo.toNat) (cap - lo.toNat)):=by
 obtain⟨F,G,H,rfl⟩:=gW hs;have u:((xs.take hi.toNat).drop lo.toNat).length=hi.toNat - lo.toNat:=by rw[P5,D7];omega
 refine sE.2 ⟨_,_,by rw[u],⟨by rw[u];omega,by rw[u];omega⟩,?_⟩;rcases h with h |⟨b,off,ds,rfl,B,C,D,E⟩
 ·subst h;left;simp
 ·by_cases z:hi.toNat - lo.toNat=0
  ·left;exact ig (by rw[u];exact z)
  ·right;have A:¬cap=lo.toNat:=by omega
   refine⟨b,off+lo.toNat*e.n,_,by rw[WM A];simp[Addr.add_lit],B,C,(D.take (hi.toNat*e.n)).drop (lo.toNat*e.n),vU _ (sP _ E)⟩
theorem CS{P:Program}{w:World}{len cap:Nat}{k k':IntKind}{lo hi:Int}(h0:0<=lo)(h1:lo<=hi)(h2:hi<=cap):(Instr.sliceBounds true len cap (some (.int k lo)) (some (.int k' hi)) none).run P w= .ok (lo.toNat,hi.toNat,cap) w:=by
 have h:0<=hi:=by omega
 have u:lo<=(hi.toNat:Int):=by omega
 simp only[Instr.sliceBounds,Instr.sliceBound,asIntOf,Sem.run_bind,Sem.run_pure,Result.andThen_ok,h2,h,u,h0,and_self,l3]
theorem Hd{P:Program}{w:World}{len cap:Nat}{k':IntKind}{hi:Int}(h1:0<=hi)(h2:hi<=cap):(Instr.sliceBounds true len cap none (some (.int k' hi)) none).run P w= .ok (0,hi.toNat,cap) w:=by
 simp[Instr.sliceBounds,Instr.sliceBound,asIntOf,h1,h2]
theorem Db{P:Program}{w:World}{len cap:Nat}{k:IntKind}{lo:Int}(h0:0<=lo)(h1:lo<=len):(Instr.sliceBounds true len cap (some (.int k lo)) none none).run P w= .ok (lo.toNat,len,cap) w:=by
 simp[Instr.sliceBounds,Instr.sliceBound,asIntOf,h0,h1]
theorem GM{α:Type}{e:Wr α}{xs:List α}{xs':Array Operand}{ρ:Nat->LV}{S a w}(K:p3 σ xs' ρ S a w)(hm:x∈xs')(hx:dB σ.g x=some (.v (Wr.sl e) xs)):
  ∃ad cap,a.eval x= .slice ad xs.length cap/\(xs.length<=cap/\xs.length<=140737488355328)/\(xs=[]\/∃b off ds,ad=some ⟨b,off,none⟩/\b<w.heap.size/\¬S b/\WC w b off ds/\e.YY xs S w ds):=by
 have h:=K.slot x hm _ hx;simp only[Slot.ok] at h;exact sE.1 h
theorem AL{α:Type}{e:Wr α}{xs ys:List α}{hi:Int}{k':IntKind}{U E:TypeId}(hs:sub xs 0 hi=some ys)(hx:dB σ.g x=some (.v (Wr.sl e) xs))(hz:dB σ.g z=some (.v (Wr.int k') hi))
  (hU:∀w,(underlying U).run F.P w= .ok (.slice E) w) (hE:∀w,(sizeOf E).run F.P w= .ok e.n w):JO F ⟨d,.slice U x none (some z) none,ty,p,af,gd⟩ σ (.v (Wr.sl e) ys) []:=by
 intro ρ S a w K;obtain⟨D,u,A,B,C⟩:=GM K (x:=x) (by simp[Op.operands]) hx;have h:=(fW K (x:=z) (by simp[Op.operands]) hz).1;obtain⟨G,s1,H,_⟩:=gW hs;refine VU.value (w':=w) ?_ (XV.same (by simp only[Slot.ok];exact GL hs B C));simp[execOp,Instr.sliceAt,Instr.slice,A,h,hU,hE,Hd s1 (show hi<=(u:Int) by omega)]
theorem wR{α:Type}{e:Wr α}{xs ys:List α}{lo:Int}{k:IntKind}{U E:TypeId}(hs:sub xs lo (xs.length:Int)=some ys)(hx:dB σ.g x=some (.v (Wr.sl e) xs))(hy:dB σ.g y=some (.v (Wr.int k) lo))
  (hU:∀w,(underlying U).run F.P w= .ok (.slice E) w) (hE:∀w,(sizeOf E).run F.P w= .ok e.n w):JO F ⟨d,.slice U x (some y) none none,ty,p,af,gd⟩ σ (.v (Wr.sl e) ys) []:=by
 intro ρ S a w K;obtain⟨C,D,u,z,A⟩:=GM K (x:=x) (by simp[Op.operands]) hx;have h:=(fW K (x:=y) (by simp[Op.operands]) hy).1;obtain⟨B,s1,G,_⟩:=gW hs;refine VU.value (w':=w) ?_ (XV.same (by simp only[Slot.ok];exact GL hs z A));simp[execOp,Instr.sliceAt,Instr.slice,u,h,hU,hE,Db B s1]
theorem GN{α:Type}{e:Wr α}{xs ys:List α}{lo hi m:Int}{k k' k2:IntKind}{q:Operand}{U E:TypeId}(hs:sub xs lo hi=some ys)(hm:hi<=m/\m<=xs.length)(hx:dB σ.g x=some (.v (Wr.sl e) xs))(hy:dB σ.g y=some (.v (Wr.int k) lo))(hz:dB σ.g z=some (.v (Wr.int k') hi))(hq:dB σ.g q=some (.v (Wr.int k2) m))
  (hU:∀w,(underlying U).run F.P w= .ok (.slice E) w) (hE:∀w,(sizeOf E).run F.P w= .ok e.n w):JO F ⟨d,.slice U x (some y) (some z) (some q),ty,p,af,gd⟩ σ (.v (Wr.sl e) ys) []:=by
 intro ρ S a w K;obtain⟨G,H,X,h2,D⟩:=GM K (x:=x) (by simp[Op.operands]) hx;have A:=(fW K (x:=y) (by simp[Op.operands]) hy).1;have B:=(fW K (x:=z) (by simp[Op.operands]) hz).1;have C:=(fW K (x:=q) (by simp[Op.operands]) hq).1;obtain⟨s0,s1,s2,rfl⟩:=gW hs;have u:((xs.take hi.toNat).drop lo.toNat).length=hi.toNat - lo.toNat:=by rw[P5,D7];omega
 have I:(Wr.sl e).val ((xs.take hi.toNat).drop lo.toNat) S w (.slice (if m.toNat=lo.toNat then G else G.map (·.add (lo.toNat*e.n))) (hi.toNat - lo.toNat) (m.toNat - lo.toNat)):=by
  refine sE.2 ⟨_,_,by rw[u],⟨by rw[u];omega,by rw[u];omega⟩,?_⟩;rcases D with h |⟨b,aa,ds,rfl,D,A,B,C⟩
  ·subst h;left;simp
  ·by_cases L:hi.toNat - lo.toNat=0
   ·left;exact ig (by rw[u];exact L)
   ·right;have M:¬m.toNat=lo.toNat:=by omega
    refine⟨b,aa+lo.toNat*e.n,_,by rw[WM M];simp[Addr.add_lit],D,A,(B.take (hi.toNat*e.n)).drop (lo.toNat*e.n),vU _ (sP _ C)⟩
 refine VU.value (w':=w) ?_ (XV.same (by simp only[Slot.ok];exact I));have N:(Instr.sliceBounds true xs.length H (some (.int k lo)) (some (.int k' hi)) (some (.int k2 m))).run F.P w= .ok (lo.toNat,hi.toNat,m.toNat) w:=by
  have O:0<=m:=by omega
  have Q:m<=(H:Int):=by omega
  have R:0<=hi:=by omega
  have T:hi<=(m.toNat:Int):=by omega
  have V:lo<=(hi.toNat:Int):=by omega
  simp only[Instr.sliceBounds,Instr.sliceBound,asIntOf,Sem.run_bind,Sem.run_pure,Result.andThen_ok,s0,O,Q,R,T,V,and_self,l3]
 simp[execOp,Instr.sliceAt,Instr.slice,X,A,B,C,hU,hE,N]
def u1{α:Type}(n:Nat)(xs:List α):Option (List α):=if n<=xs.length/\0<n then some (xs.take n) else none
theorem Ed{α:Type}{e:Wr α}{xs ys:List α}{n:Nat}{U E:TypeId}(hs:u1 n xs=some ys)(hx:dB σ.g x=some (.v (Wr.sl e) xs))(hU:∀w,(underlying U).run F.P w= .ok (.array n E) w):
  JO F ⟨d,.sliceToArrayPointer U x,ty,p,af,gd⟩ σ (.YA (Wr.arr n e) ys) []:=by
 intro ρ S a w K;obtain⟨I,L,C,M,u⟩:=GM K (x:=x) (by simp[Op.operands]) hx;unfold u1 at hs;split at hs
 ·rename_i B;cases hs;rcases u with h |⟨b,z,N,rfl,u,D,G,H⟩
  ·subst h;simp at B;omega
  ·have A:¬xs.length<n:=by omega
   refine VU.value (w':=w) (v:= .pointer (some ⟨b,z,none⟩)) ?_ (XV.same (by simp only[Slot.ok];exact⟨b,z,_,rfl,u,D,G.take (n*e.n),by rw[D7];omega,sP _ H⟩));simp[execOp,Instr.arrayAt,C,hU,A]
 ·cases hs
theorem Ax{k:IntKind}{m n:Int}{U U':TypeId}(hx:dB σ.g x=some (.v (Wr.int k) m))(hy:dB σ.g y=some (.v (Wr.int k) n)):
  JO F ⟨d,.call ⟨.builtin .max,#[x,y],#[U,U']⟩,ty,p,af,gd⟩ σ (.v (Wr.int k) (max m n)) []:=by
 intro ρ S a w K;obtain⟨h,z⟩:=fW K (x:=x) (by simp[Op.operands,Call.operands]) hx;obtain⟨u,A⟩:=fW K (x:=y) (by simp[Op.operands,Call.operands]) hy;have e:(if n>m then n else m)=max m n:=by split<;>omega
 refine VU.value (w':=w) (v:= .int k (max m n)) ?_ (XV.same (tF (by unfold Ea at*;omega) ρ S w));simp[execOp,resolve,invoke,builtin,h,u,Builtin.max_,Builtin.max2,e]
theorem yN{k:IntKind}{m n:Int}{U U':TypeId}(hx:dB σ.g x=some (.v (Wr.int k) m))(hy:dB σ.g y=some (.v (Wr.int k) n)):
  JO F ⟨d,.call ⟨.builtin .min,#[x,y],#[U,U']⟩,ty,p,af,gd⟩ σ (.v (Wr.int k) (min m n)) []:=by
 intro ρ S a w K;obtain⟨h,z⟩:=fW K (x:=x) (by simp[Op.operands,Call.operands]) hx;obtain⟨u,A⟩:=fW K (x:=y) (by simp[Op.operands,Call.operands]) hy;have e:(if n<m then n else m)=min m n:=by split<;>omega
 refine VU.value (w':=w) (v:= .int k (min m n)) ?_ (XV.same (tF (by unfold Ea at*;omega) ρ S w));simp[execOp,resolve,invoke,builtin,h,u,Builtin.min_,Builtin.min2,e]
theorem Iu{T U:TypeId}{l:List Slot}{i off n:Nat}{s0:Slot}(hx:dB σ.g x=some (.ptr i off))(he:aW σ.d i=some (.box T l pb))(ho:nJ l off=some s0)(hy:Arg σ false y s)(hp:s.plain=true)(q7:s.sz=n)(J4:s0.sz=n)
  (hS:∀w,(sizeOf U).run F.P w= .ok n w):JM F ⟨none,.store U x y,ty,p,af,gd⟩ σ ⟨σ.g,(i,.box T (nW l off s) pb)::σ.d⟩:=by
 refine pZ he rfl fun ρ a w z A=>?_;have K:=cI z A (Op.store U x y).operands;obtain⟨b,R,B,I,C,L⟩:=zP K (x:=x) (by simp[Op.operands]) hx he;have h:=qT hp (hy ρ _ a w (cI z A #[y]));simp only[P2,j5] at h;obtain⟨M,c,N,rfl,rfl,O,Q⟩:=uY ho L;have D:∀u∈(a.eval y).cells.toList,u.oneCell'=true:=fun u G=>Ha h u G (fun e=>by subst e;cases hp);have E:=lF (P:=F.P) (w:=w) (U:=U) hS (by have:=nM h;simp only[aw] at this;omega) D C rfl (by rw[nM O];exact J4);refine⟨b,w.setRow b (M++((a.eval y).cells.toList++N)).toArray,.inl (by rw[B];rfl),ax.setRow w b _,?_,fun H=>?_⟩
 ·exact lG I E
 ·refine⟨⟨b,_,B,setRow_heap w b _ _ T _ C,?_⟩,(z.own i _ he).2⟩;exact fU _ _ (Q s _ h) H (fun _ _=>rfl)
theorem GO(g:Nat)(ρ:Nat->LV)(S:Nat->Prop)(w:World):(Slot.ZT g []).ok ρ S w (.func (.func g) #[] #[]):=by
 simp only[Slot.ok];exact⟨[],rfl,rfl⟩
theorem Arg.fn{g:Nat}{ZI:Bool}:Arg σ ZI (.func g) (.ZT g []):=fun ρ _ a w _=>GO g ρ _ w
end
end Go.Sw
namespace Go.Sw
open Go Go.RowKit
section
variable {F:XG}{σ:AS}{pb:Option Nat}{s:Slot}{d:Option Tmp}{ty:TypeId}{p:String}{af:Array Edge}{gd:Option (Nat×Bool)}{x y z:Operand}
theorem Ay{ρ S w}:∀{l l':List Slot} {vs H6:List Value},aV ρ S w l vs->aV ρ S w l' H6->aV ρ S w (l++l') (vs++H6)
 | [],_,vs,_,h,z=>by simp only[aV] at h;subst h;exact z
 |s::l,_,vs,_,h,z=>by
  simp only[aV] at h;obtain⟨u,C,rfl,A,B⟩:=h;simp only[cz,aV];exact⟨u,_,rfl,A,Ay B z⟩
theorem Pw{P:Program}{f:FuncId}{xs:List Operand}{ts:Array TypeId}{a:Act}{w:World}{cs:List Value}(hx:a.eval x= .func (.func f) #[] cs.toArray)(XX:∀args w,(callFunc f args).run P w= .ok (.enter f args) w):
  (execOp a.eval ⟨d,.call ⟨.value x,xs.toArray,ts⟩,ty,p,af,gd⟩).run P w= .ok (.enter f (xs.map a.eval++cs).toArray) w:=by
 simp[execOp,resolve,hx,Deferred.ofValue,invoke,XX]
theorem tL{f:FuncId}{xs:List Operand}{cap:List Slot}(ha:P8 σ false xs cap):JO F ⟨d,.makeFunc (.func f) #[] xs.toArray,ty,p,af,gd⟩ σ (.ZT f cap) []:=by
 intro ρ S a w K;have:=ha.spec (ys:=(Op.makeFunc (.func f) #[] xs.toArray).operands) (by intro x h;simp[Op.operands,h]) K;simp only[P2,j5] at this;refine VU.value (w':=w) (v:= .func (.func f) #[] (xs.map a.eval).toArray) (by simp[execOp,Instr.makeFunc]) (XV.same (by simp only[Slot.ok];exact⟨_,rfl,this⟩))
theorem Xv{α:Type}{i:Nat}{T:TypeId}{e:Wr α}{v:α}{bl:List Slot}{ρ:Nat->LV}{S:Nat->Prop}{w:World}{u:Value}(h0:(Slot.ptr i 0).ok ρ S w u)(he:(VS.box T bl pb).ok ρ S w (ρ i))(hs:M5 bl e v):
  (Slot.YA e v).ok ρ (fun _=>False) w u:=by
 simp only[Slot.ok] at h0 ⊢;obtain⟨⟨b,z⟩,D⟩:=h0;obtain⟨⟨A,E,B,C,F⟩,_⟩:=he;obtain rfl:A=b:=by rw[z] at B;simpa using B.symm
 exact⟨A,0,E,by rw[D,z];rfl,(WC.of_heap C).lt,fun h=>h,WC.of_heap C,e.mono ((hs _ _ _ _).1 F) (zQ S w true)⟩
inductive il (σ:AS):List Slot->List Slot->Prop
 |nil:il σ [] []
 |same {s:Slot} {l l':List Slot}:il σ l l'->il σ (s::l) (s::l')
 |ptr {α:Type} {i:Nat} {T:TypeId} {e:Wr α} {v:α} {bl l l':List Slot} {pb:Option Nat}:aW σ.d i=some (.box T bl pb)->M5 bl e v->il σ l l'->il σ (.ptr i 0::l) (.YA e v::l')
theorem il.spec{l l':List Slot}(h:il σ l l'){ρ S w}(kc:∀i∈eA l,∀en,aW σ.d i=some en->en.ok ρ S w (ρ i)):∀vs,aV ρ S w l vs->aV ρ (fun _=>False) w l' vs:=by
 induction h with
 |nil=>intro vs h;exact h
 |same _ E=>
  intro vs h;simp only[aV] at h ⊢;obtain⟨u,z,B,C,D⟩:=h;exact⟨u,z,B,Slot.VP _ u C (zQ S w true) (fun _ _=>rfl),E (fun i A=>kc i (by simp[eA,A])) z D⟩
 |ptr F G _ E=>
  intro vs h;simp only[aV] at h ⊢;obtain⟨u,z,B,C,D⟩:=h;exact⟨u,z,B,Xv C (kc _ (by simp[eA,Slot.YJ]) _ F) G,E (fun i A=>kc i (by simp[eA,A])) z D⟩
theorem Arg.I2{α:Type}{i:Nat}{T:TypeId}{e:Wr α}{v:α}{bl:List Slot}(h:dB σ.g x=some (.ptr i 0))(he:aW σ.d i=some (.box T bl pb))(hs:M5 bl e v):Arg σ true x (.YA e v):=by
 intro ρ S a w K;have u:=K.slot x (by simp) _ h;exact Xv u (K.B9 x (by simp) _ h i (by simp[Slot.YJ]) _ he).1 hs
theorem Arg.aMn{g:Nat}{cap M0:List Slot}(h:dB σ.g x=some (.ZT g cap))(hc:il σ cap M0):Arg σ true x (.ZT g M0):=by
 intro ρ S a w K;have u:=K.slot x (by simp) _ h;simp only[Slot.ok] at u;obtain⟨vs,C,D⟩:=u;simp only[Slot.ok,l3];exact⟨vs,C,hc.spec (fun i z A B=>(K.B9 x (by simp) _ h i (by simpa[Slot.YJ] using z) A B).1) vs D⟩
theorem rL{α:Type}{e:Wr α}{v:α}(hx:dB σ.g x=some (.YA e v)):JO F ⟨d,.nilCheck x,ty,p,af,gd⟩ σ (.YA e v) []:=by
 intro ρ S a w K;have h:=K.slot x (by simp[Op.operands]) _ hx;have u:=h;simp only[Slot.ok] at u;obtain⟨b,A,B,z,_⟩:=u;refine VU.value (w':=w) (v:=a.eval x) ?_ (XV.same h);simp[execOp,z]
theorem aK{i off:Nat}(hx:dB σ.g x=some (.ptr i off)):JO F ⟨d,.nilCheck x,ty,p,af,gd⟩ σ (.ptr i off) []:=by
 intro ρ S a w K;have h:=K.slot x (by simp[Op.operands]) _ hx;have u:=h;simp only[Slot.ok] at u;obtain⟨⟨b,z⟩,A⟩:=u;refine VU.value (w':=w) (v:=a.eval x) ?_ (XV.same h);simp[execOp,A,z,Cv]
end
end Go.Sw
namespace Go.Sw
open Go Go.RowKit
theorem M5.VL{α β:Type}{l l':List Slot}{a:Wr α}{b:Wr β}{x:α}{y:β}(h:M5 l a x)(h':M5 l' b y):M5 (l++l') (Wr.pr a b) (x,y):=M5.pr (x:=(x,y)) h h'
section
variable {F:XG}{σ:AS}{pb:Option Nat}{s:Slot}{d:Option Tmp}{ty:TypeId}{p:String}{af:Array Edge}{gd:Option (Nat×Bool)}{x y z:Operand}
theorem aO{f:FuncId}{xs:List Operand}{ts:Array TypeId}{ss:List Slot}{res:Slot}(hc:WE F.P f ss res [])(XX:∀args w,(callFunc f args).run F.P w= .ok (.enter f args) w)
  (ha:P8 σ false xs ss):JO F ⟨d,.call ⟨.value (.func f),xs.toArray,ts⟩,ty,p,af,gd⟩ σ res []:=by
 intro ρ S a w K;refine VU.enter (uA XX) ?_;have:=ha.spec (ys:=(Op.call ⟨.value (.func f),xs.toArray,ts⟩).operands) (by intro x u;simp[Op.operands,Call.operands,u]) K;refine(hc S w _ ρ K.low this).mono ?_;rintro e z ⟨v,rfl,h⟩;exact⟨v,rfl,h⟩
theorem tM{f:FuncId}{xs:List Operand}{ts:Array TypeId}{ss cap:List Slot}{res:Slot}(hx:dB σ.g x=some (.ZT f cap))(hc:WE F.P f (ss++cap) res [])(XX:∀args w,(callFunc f args).run F.P w= .ok (.enter f args) w)
  (ha:P8 σ false xs ss):JO F ⟨d,.call ⟨.value x,xs.toArray,ts⟩,ty,p,af,gd⟩ σ res []:=by
 intro ρ S a w K;have u:=K.slot x (by simp[Op.operands,Call.operands]) _ hx;simp only[Slot.ok] at u;obtain⟨B,z,A⟩:=u;refine VU.enter (Pw z XX) ?_;have:=ha.spec (ys:=(Op.call ⟨.value x,xs.toArray,ts⟩).operands) (by intro x hx;simp[Op.operands,Call.operands,hx]) K;refine(hc S w _ ρ K.low (Ay this A)).mono ?_;rintro e C ⟨v,rfl,h⟩;exact⟨v,rfl,h⟩
theorem rM{f:FuncId}{xs:List Operand}{ts:Array TypeId}{ss:List Slot}{res:Slot}(hc:WE F.P f ss res [])(XX:∀args w,(callFunc f args).run F.P w= .ok (.enter f args) w)
  (ha:P8 σ true xs ss) (hf:XO res):JO F ⟨d,.call ⟨.value (.func f),xs.toArray,ts⟩,ty,p,af,gd⟩ σ res []:=by
 intro ρ S a w K;refine VU.enter (uA XX) ?_;have:=ha.spec (ys:=(Op.call ⟨.value (.func f),xs.toArray,ts⟩).operands) (by intro x z;simp[Op.operands,Call.operands,z]) K;refine(hc (fun _=>False) w _ ρ (fun _ h=>h.elim) this).mono ?_;rintro e E ⟨v,rfl,ρ',A,B,C,G⟩;refine⟨v,rfl,ρ',A,B,hf _ _ _ _ _ C,⟨fun i u h=>by simp[aW] at h,fun i u b h=>by simp[aW] at h,fun i j u D b h=>by simp[aW] at h⟩⟩
theorem Mf{P:Program}{w:World}{n:Nat}:(Instr.sliceBounds false n n none none none).run P w= .ok (0,n,n) w:=by simp[Instr.sliceBounds]
theorem Ka{P:Program}{w:World}{n:Nat}{k:IntKind}{hi:Int}(h0:0<=hi)(h1:hi<=n):(Instr.sliceBounds false n n none (some (.int k hi)) none).run P w= .ok (0,hi.toNat,n) w:=by
 simp[Instr.sliceBounds,Instr.sliceBound,asIntOf,h0,h1]
theorem CT{P:Program}{w:World}{U E:TypeId}{b off len m:Nat}(hU:∀w,(underlying U).run P w= .ok (.array len E) w)(hE:∀w,(sizeOf E).run P w= .ok m w):(Instr.sliceAt U (.pointer (some ⟨b,off,none⟩)) none none none).run P w= .ok (.slice (some ⟨b,off,none⟩) len len) w:=by
 have u:Addr.add ⟨b,off,none⟩ 0=⟨b,off,none⟩:=by rw[Addr.add_lit];rfl
 by_cases h:len=0
 ·subst h;simp[Instr.sliceAt,hU,hE,Instr.sureAddr,Mf]
 ·simp[Instr.sliceAt,hU,hE,Instr.sureAddr,Mf,h,u]
theorem Xw{P:Program}{w:World}{U E:TypeId}{b off len m:Nat}{k:IntKind}{hi:Int}(h0:0<=hi)(h1:hi<=len)(hU:∀w,(underlying U).run P w= .ok (.array len E) w)(hE:∀w,(sizeOf E).run P w= .ok m w):(Instr.sliceAt U (.pointer (some ⟨b,off,none⟩)) none (some (.int k hi)) none).run P w= .ok (.slice (some ⟨b,off,none⟩) hi.toNat len) w:=by
 have u:Addr.add ⟨b,off,none⟩ 0=⟨b,off,none⟩:=by rw[Addr.add_lit];rfl
 by_cases h:len=0
 ·subst h;simp[Instr.sliceAt,hU,hE,Instr.sureAddr,Ka h0 h1]
 ·simp[Instr.sliceAt,hU,hE,Instr.sureAddr,Ka h0 h1,h,u]
theorem Px{α:Type}{e:Wr α}{zs:List α}{T U E:TypeId}{l:List Slot}{i off len:Nat}(hx:dB σ.g x=some (.ptr i off))(he:aW σ.d i=some (.box T l pb))(_ho:nJ l off=some (.v (Wr.arr len e) zs))
  (hU:∀w,(underlying U).run F.P w= .ok (.array len E) w) (hE:∀w,(sizeOf E).run F.P w= .ok e.n w):
  JO F ⟨d,.slice U x none none none,ty,p,af,gd⟩ σ (.w8 i off 0 len len) []:=by
 intro ρ S a w K;obtain⟨b,z,h,u,A,B⟩:=zP K (x:=x) (by simp[Op.operands]) hx he;refine VU.value (w':=w) (v:= .slice (some ⟨b,off,none⟩) len len) ?_ (XV.same (by simp only[Slot.ok];exact⟨⟨b,h⟩,by rw[h];rfl⟩));simp[execOp,u,CT hU hE]
theorem RU{xs:Array Operand}{ρ:Nat->LV}{S a w}(K:p3 σ xs ρ S a w)(hm:x∈xs){i off n cap:Nat}{T:TypeId}{l:List Slot}(hx:dB σ.g x=some (.w8 i off 0 n cap))(he:aW σ.d i=some (.box T l pb)):
  ∃b cs,a.eval x= .slice (some ⟨b,off,none⟩) n cap/\w.heap[b]? =some (.cells cs.toArray T (0,0))/\bN ρ S w l cs:=by
 have h:=K.slot x hm _ hx;simp only[Slot.ok] at h;obtain⟨⟨b,u⟩,B⟩:=h;have:=(K.B9 x hm _ hx i (by simp[Slot.YJ]) _ he).1;obtain⟨⟨z,cs,A,C,D⟩,_⟩:=this;obtain rfl:z=b:=by rw[u] at A;simpa using A.symm
 exact⟨z,cs,by rw[B,u];rfl,C,D⟩
theorem LO{α:Type}{e:Wr α}{zs:List α}{T:TypeId}{l:List Slot}{b off len:Nat}{cs:List Value}{ρ:Nat->LV}{S:Nat->Prop}{w:World}(h3:w.heap[b]? =some (.cells cs.toArray T (0,0)))(h4:bN ρ S w l cs)(ho:nJ l off=some (.v (Wr.arr len e) zs)):
  zs.length=len/\∃ds,WC w b off ds/\e.YY zs S w ds:=by
 obtain⟨u,c,z,rfl,rfl,h,_⟩:=uY ho h4;simp only[Slot.ZD] at h;exact⟨h.1,c,by have:=(WC.of_heap h3).sub;simpa using this,h.2⟩
theorem Src.w8{α:Type}{e:Wr α}{zs:List α}{T:TypeId}{l:List Slot}{i off len:Nat}(h:dB σ.g y=some (.w8 i off 0 len len))(he:aW σ.d i=some (.box T l pb))(ho:nJ l off=some (.v (Wr.arr len e) zs))(hlen:Nat.ble len 4294967296=true):Src σ y e zs:=by
 intro ρ S a w K;have hlen:=A6 hlen;obtain⟨b,F,u,z,A⟩:=RU K (x:=y) (by simp) h he;obtain⟨B,C,D,E⟩:=LO z A ho;exact⟨by omega,_,_,by rw[u,B],.inr ⟨b,off,C,rfl,D,E⟩⟩
theorem CU{α:Type}{e:Wr α}{T E:TypeId}{n:Nat}{ti tE:TypeInfo}{z:Value}{ps:List (Nat×Operand)}{zs:List α}(hI:∀w,(typeInfo T).run F.P w= .ok ti w)(hU:∀w,(underlying T).run F.P w= .ok (.array n E) w)(hE:∀w,(typeInfo E).run F.P w= .ok tE w)(hs:tE.size=e.n)(hz:ti.zero=some z)(hzn:z.cells.size=n*e.n)
  (hl:ps.length=n) (V4:zs.length=n) (he:C5 σ e 0 ps zs):JO F ⟨d,.build T ps.toArray,ty,p,af,gd⟩ σ (.v (Wr.arr n e) zs) []:=by
 intro ρ S a w K;obtain⟨h,B,C⟩:=he.spec (ys:=(Op.build T ps.toArray).operands) (by intro x u;simp[Op.operands] at u ⊢;exact u) K [] z.cells.toList (by simp) (by rw[hl,aw,hzn]);refine VU.value (w':=w) (v:= .agg h.toArray) ?_ (XV.same (by simp only[Slot.ok];exact⟨h,⟨V4,C⟩,rfl⟩));have A:F.P.built T (ps.map fun q=>(q.1,a.eval q.2))=some h.toArray:=by
  unfold Program.built;rw[uB hI,qV hU];simp only[hz,uB hE,hs];simpa using B
 have:=run_build (P:=F.P) w T (ps.map fun q=>(q.1,a.eval q.2)).toArray h.toArray (by simpa using A);simp only[execOp,aDd];simp[this]
end
end Go.Sw
namespace Go.Sw
open Go Go.RowKit
def Wr.H8{α:Type}(e:Wr α):Wr (Bool×List α) where
 n:=1
 agg:=false
 ok x S w cs:=(Wr.sl e).ok x.2 S w cs/\∀a l c,cs=[.slice a l c]->x.1=a.isNone
 len h:=(Wr.sl e).len h.1
 one _:=rfl
 cell h:=(Wr.sl e).cell h.1
 mono h k:=⟨(Wr.sl e).mono h.1 k,h.2⟩
theorem Ru{α:Type}{e:Wr α}{b:Bool}{xs:List α}{S w u}(h:(Wr.H8 e).val (b,xs) S w u):(Wr.sl e).val xs S w u/\∃a l c,u= .slice a l c/\b=a.isNone:=by
 obtain⟨B,⟨z,C⟩,rfl⟩:=h;refine⟨⟨B,z,rfl⟩,?_⟩;obtain⟨a,D,A,_⟩:=z;exact⟨a,_,D,by rw[A];rfl,C _ _ _ A⟩
theorem rN{α:Type}{P:Program}{f:FuncId}{e:Wr α}{xs:List α}{res:Slot}{new:List (Nat×VS)}(h:∀b,(b=true->xs=[])->WE P f [.v (Wr.H8 e) (b,xs)] res new):WE P f [.v (Wr.sl e) xs] res new:=by
 intro S w vs ρ hl hv;simp only[aV,Slot.ok] at hv;obtain⟨u,F,rfl,C,rfl⟩:=hv;obtain⟨a,A,rfl,D,z⟩:=sE.1 C;refine h a.isNone (fun B=>?_) S w _ ρ hl ?_
 ·rcases z with z |⟨b,G,H,rfl,_⟩
  ·exact z
  ·cases B
 ·simp only[aV,Slot.ok];refine⟨_,[],rfl,⟨[.slice a xs.length A],⟨⟨a,A,rfl,D,z⟩,fun E l c h=>?_⟩,rfl⟩,rfl⟩;simp at h;rw[h.1]
section
variable {F:XG}{σ:AS}{s:Slot}{d:Option Tmp}{ty:TypeId}{p:String}{af:Array Edge}{gd:Option (Nat×Bool)}{x y z:Operand}
theorem xE{α:Type}{e:Wr α}{v:Bool×List α}{T T' E:TypeId}(hx:dB σ.g x=some (.v (Wr.H8 e) v))(hT:∀w,(underlying T).run F.P w= .ok (.slice E) w):JO F ⟨d,.binOp .eql T x (.const (.slice none 0 0)) T',ty,p,af,gd⟩ σ (.v Wr.bool v.1) []:=by
 intro ρ S a w K;have h:=K.slot x (by simp[Op.operands]) _ hx;simp only[Slot.ok] at h;obtain⟨b,xs⟩:=v;obtain⟨_,u,l,c,A,rfl⟩:=Ru h;have z:=run_equalIn_slice_nil (P:=F.P) w 9999 T E u l c (qV hT);refine VU.value (w':=w) (v:= .bool u.isNone) ?_ (XV.same (nL _ ρ S w));exact Xp (r:=u.isNone) (.inl ⟨rfl,rfl⟩) A rfl (by intros;simp) (by intros;simp) (by intros;simp) (by intros;simp) (by simp[eqGuard,Act.eval]) z
theorem Src.H8{α:Type}{e:Wr α}{v:Bool×List α}(h:dB σ.g y=some (.v (Wr.H8 e) v)):Src σ y e v.2:=by
 intro ρ S a w K;have z:=K.slot y (by simp) _ h;simp only[Slot.ok] at z;obtain⟨A,B,C,D,u⟩:=sE.1 (Ru z).1;refine⟨D.2,A,B,C,?_⟩;rcases u with u |⟨b,E,F,G,_,_,H,I⟩
 ·exact .inl u
 ·exact .inr ⟨b,E,F,G,H,I⟩
end
end Go.Sw
namespace Go.Sw
open Go Go.RowKit
def vu(cs:List Value)(l:List Slot)(new:List (Nat×VS)):Prop:=∀ρ S w,(∀i en,aW new i=some en->ρ i= .of (.slice none 0 0))->bN ρ S w l cs
theorem vu.nil{new:List (Nat×VS)}:vu [] [] new:=fun _ _ _ _=>rfl
theorem vu.cons{cs:List Value}{l:List Slot}{new:List (Nat×VS)}{α:Type}{e:Wr α}{z:α}{c:List Value}(h:∀S w,e.ok z S w c)(k:vu cs l new):vu (c++cs) (.v e z::l) new:=fun ρ S w u=>by
 simp only[bN];exact⟨c,cs,rfl,by simp only[Slot.ZD];exact h S w,k ρ S w u⟩
theorem vu.ref{cs:List Value}{l:List Slot}{new:List (Nat×VS)}{en:VS}(i:Nat)(hi:aW new i=some en)(k:vu cs l new):vu (.slice none 0 0::cs) (.ref i::l) new:=fun ρ S w h=>by
 simp only[bN];exact⟨[.slice none 0 0],cs,rfl,by simp only[Slot.ZD];rw[h i en hi];exact⟨.inl ⟨_,_,_,rfl⟩,rfl⟩,k ρ S w h⟩
inductive bw:List (Nat×VS)->Prop
 |nil:bw []
 |cons {α:Type} {i:Nat} {T:TypeId} {e:Wr α} {r:List (Nat×VS)}:bw r->bw ((i,.arr T e [])::r)
 |dp {α:Type} {i:Nat} {D:DE α} {x:α} {r:List (Nat×VS)}:(∀S w,D.ok x S w (.of (.slice none 0 0)) [])->bw r->bw ((i,.dp D x [])::r)
theorem bw.spec{new:List (Nat×VS)}(h:bw new):∀i en,aW new i=some en->∀ρ S w,en.ok ρ S w (.of (.slice none 0 0)):=by
 induction h with
 |nil=>intro i en h;simp[aW] at h
 |cons _ u=>
  rename_i α i T e r _;intro j en h;simp only[aW] at h;cases hb:Nat.beq i j with
  |true=>rw[hb] at h;simp at h;subst h;intro ρ S w;exact .inl ⟨rfl,rfl⟩
  |false=>rw[hb] at h;exact u j en h
 |dp z _ u=>
  rename_i α i D x r _;intro j en h;simp only[aW] at h;cases hb:Nat.beq i j with
  |true=>rw[hb] at h;simp at h;subst h;intro ρ S w;exact z S w
  |false=>rw[hb] at h;exact u j en h
section
variable {F:XG}{σ:AS}{s:Slot}{d:Option Tmp}{ty:TypeId}{p:String}{af:Array Edge}{gd:Option (Nat×Bool)}{x y z:Operand}
theorem AM{new:List (Nat×VS)}{xs:Array Operand}{ρ:Nat->LV}{S:Nat->Prop}{a:Act}{w:World}(hn:bw new)(hf:σ.free new=true)(K:p3 σ xs ρ S a w):
  ∃ρ':Nat->LV,(∀i,aW new i=none->ρ' i=ρ i)/\(∀i en,aW new i=some en->ρ' i= .of (.slice none 0 0))/\p3 σ xs ρ' S a w/\nb ρ' (Un S ρ' new) w w new/\Ext S (Un S ρ' new) w w:=by
 let ρ':Nat->LV:=fun i=>if (aW new i).isSome then .of (.slice none 0 0) else ρ i
 have D:∀i,aW new i=none->ρ' i=ρ i:=fun i h=>WM (by simp[h]);have B:∀i en,aW new i=some en->ρ' i= .of (.slice none 0 0):=fun i en h=>WV (by simp[h]);have F:=fun {i en} (h:aW new i=some en)=>lB hf h;have L:∀t s,lk σ.g t=some s->mO ρ ρ' s.YJ:=by
  intro t s P j A;cases hl:aW new j with
  |none=>exact congrArg LV.v (D j hl)
  |some en=>exact absurd A ((F hl).1 t s P)
 have M:∀i en,aW σ.d i=some en->mO ρ ρ' en.YJ:=by
  intro i en G j A;cases hl:aW new j with
  |none=>exact congrArg LV.v (D j hl)
  |some Q=>exact absurd A ((F hl).2.2 i en G)
 have N:∀x s,dB σ.g x=some s->mO ρ ρ' s.YJ:=by
  intro x s z;cases x with
  |tmp t=>exact L t s z
  |const u=>have:=(Lt z ρ S w).2;intro j A;rw[this] at A;simp at A
  |global g=>cases z
  |func f=>cases z
 refine⟨ρ',D,B,⟨K.low,fun x z s E=>Slot.VP s _ (K.slot x z s E) (Ext.refl S w) (N x s E),fun x z s E i G en H=>?_⟩,⟨fun i en h=>?_,fun i en b h C=>?_,fun i j en Q b h X C _=>?_⟩,⟨YQ _,fun k _ R=>⟨rfl,?_⟩⟩⟩
 ·obtain⟨T,U⟩:=K.B9 x z s E i G en H
  have O:ρ' i=ρ i:=D i (by
   cases hl:aW new i with
   |none=>rfl
   |some e=>have:=(F hl).2.1;rw[H] at this;cases this)
  rw[O];exact⟨VS.VP T (Ext.refl S w) (M i en H) (fun _ _=>rfl),U⟩
 ·rw[B i en h];exact hn.spec i en h _ _ _
 ·rw[B i en h] at C;simp[pH,YV] at C
 ·rw[B i en h] at C;simp[pH,YV] at C
 ·rintro (h |⟨i,en,V,I⟩)
  ·exact R h
  ·rw[B i en V] at I;simp[pH,YV] at I
theorem fL{T:TypeId}{pl:Array (Nat×Nat)}{zs:List Value}{ps:List (Nat×Operand)}{l l':List Slot}{new:List (Nat×VS)}(hB:∀parts,F.P.built T parts=Instr.fill (pl[·]?) zs.toArray parts)(hz:vu zs l new)(hn:bw new)(hf:σ.free new=true)(hp:M6 σ pl l ps l'):
  JO F ⟨d,.build T ps.toArray,ty,p,af,gd⟩ σ (.agg l') new:=by
 intro ρ S a w K;obtain⟨ρ',A,B,C,D,E⟩:=AM hn hf K;obtain⟨h,G,H⟩:=hp.spec (ys:=(Op.build T ps.toArray).operands) (by intro x u;simp[Op.operands] at u ⊢;exact u) C zs (hz ρ' S w B);have z:(Slot.agg l').ok ρ' S w (.agg h.toArray):=by simp only[Slot.ok];exact⟨h,rfl,H⟩
 refine VU.value (w':=w) (v:= .agg h.toArray) ?_ ⟨ρ',A,Below.refl _ _,Slot.VP _ _ z E (fun _ _=>rfl),D⟩;have:=run_build (P:=F.P) w T (ps.map fun q=>(q.1,a.eval q.2)).toArray h.toArray (by rw[hB];exact G);simp only[execOp,aDd];simp[this]
end
end Go.Sw
namespace Go.Sw
open Go Go.RowKit
structure Ins (S:Nat->Prop) (ρ:Nat->LV) (w:World) (YE:List (Nat×VS)):Prop where
 own:∀i en,aW YE i=some en->en.ok ρ (Un S ρ YE) w (ρ i)
 lt:∀i en b,aW YE i=some en->qQ (ρ i) b->b<w.heap.size
 apart:∀i en b,aW YE i=some en->qQ (ρ i) b->¬S b
 inj:∀i j en en' b,aW YE i=some en->aW YE j=some en'->qQ (ρ i) b->qQ (ρ j) b->i=j
structure eu (S:Nat->Prop) (R:Nat->Prop) (w0:World) (res:Slot) (WB:List (Nat×VS)) (ρ:Nat->LV) (v:Value) (w:World):Prop where
 size:w0.heap.size<=w.heap.size
 frame:∀k,k<w0.heap.size->¬R k->w.heap[k]? =w0.heap[k]?
 os:w.os=w0.os
 tape:w.tape=w0.tape
 output:w.output=w0.output
 slot:res.ok ρ (Un S ρ WB) w v
 own:∀i en,aW WB i=some en->en.ok ρ (Un S ρ WB) w (ρ i)
 fresh:∀i en b,aW WB i=some en->qQ (ρ i) b->(w0.heap.size<=b\/R b)/\b<w.heap.size
 apart:∀i en b,aW WB i=some en->qQ (ρ i) b->¬S b
 inj:∀i j en en' b,aW WB i=some en->aW WB j=some en'->qQ (ρ i) b->qQ (ρ j) b->i=j
def VR(P:Program)(f:FuncId)(args:List Slot)(YE:List (Nat×VS))(res:Slot)(WB:List (Nat×VS)):Prop:=
 ∀S w vs ρ,(∀k,S k->k<w.heap.size)->Ins S ρ w YE->aV ρ (Un S ρ YE) w args vs->Calls P f vs.toArray w fun e h=>∃v ρ',e= .returned v/\eu S (mP ρ YE) w res WB ρ' v h
def zR(F:XG)(fn:Func)(res:Slot)(WB:List (Nat×VS)):Exit->Act->World->Prop:=
 bodyPostM Fence.wide 0 F.P fn fun e h=>∃v ρ',e= .returned v/\eu F.S0 F.R F.w0 res WB ρ' v h
theorem VR.of{P:Program}{f:FuncId}{fn:Func}{c:Code}{N:Nat}{args:List Slot}{YE:List (Nat×VS)}{res:Slot}{WB:List (Nat×VS)}
  (hf:P.funcs[f]? =some fn) (hb:fn.body=some c) (hN:fn.ntmps=N) (hle:Nat.ble args.length N=true)
  (h:∀S w R,V9 ⟨P,N,S,w,R,none,[]⟩ ⟨P,N,S,w,R,none,[]⟩->W ⟨P,N,S,w,R,none,[]⟩ [c] ⟨enum 0 args,YE⟩ (zR ⟨P,N,S,w,R,none,[]⟩ fn res WB)):VR P f args YE res WB:=by
 intro S w vs ρ j6 B2 hv;refine(callsIn_wide (n:=0)).1 (callsIn_of_wp_marks hf hb trivial ?_);have G:=Gx hv;have hle:=A6 hle;have B:St ⟨P,N,S,w,mP ρ YE,none,[]⟩ ⟨enum 0 args,YE⟩ { tmps:=vs.toArray++Array.replicate (fn.ntmps - vs.toArray.size) undef,defers:=[] } w:= ?_
 ·have z:c.wpIn Fence.wide 0 P (Exit.then (run Fence.wide P (zR ⟨P,N,S,w,mP ρ YE,none,[]⟩ fn res WB) []) (zR ⟨P,N,S,w,mP ρ YE,none,[]⟩ fn res WB)) { tmps:=vs.toArray++Array.replicate (fn.ntmps - vs.toArray.size) undef,defers:=[] } w:=h S w _ (.refl j6 rfl) _ w B;refine wpIn_mono z ?_;intro e a H D;cases e<;>exact D
 ·refine⟨⟨ρ,⟨j6,YQ _,fun _ _ _=>rfl,rfl,rfl,rfl,B2.own,fun i A b h hb=>⟨.inr ⟨i,A,h,hb⟩,B2.lt i A b h hb⟩,B2.inj,B2.apart⟩,fun t s E=>?_⟩,?_,rfl⟩
  ·obtain⟨_,u,z,F⟩:=Lv args vs 0 hv t s E;have C:t<vs.length:=by
    rcases M3 t vs.length with h | h
    ·exact h
    ·simp[Z7 h] at z
   have:(vs.toArray++Array.replicate (fn.ntmps - vs.toArray.size) undef).getD t undef=u:=by
    simp only[ph];rw[aDm (by simpa using C)];simp only[Nat.sub_zero] at z;simp[z]
   rw[this];exact F
  ·simp only[aEm,aEn,aD8];show _=N;omega
theorem eu.r5{F:XG}{σ:AS}{ρ:Nat->LV}{w:World}{v:Value}{res:Slot}{WB:List (Nat×VS)}(hc:Core F σ.d ρ w)(hr:res.ok ρ (Un F.S0 ρ σ.d) w v)(hn:B6 WB σ.d):eu F.S0 F.R F.w0 res WB ρ v w:=by
 have z:=hn.spec
 have B:Ext (Un F.S0 ρ σ.d) (Un F.S0 ρ WB) w w:=⟨YQ _,fun k _ D=>⟨rfl,fun h=>D (by
  rcases h with h |⟨i,u,K,L⟩
  ·exact .inl h
  ·exact .inr ⟨i,u,z i u K,L⟩)⟩⟩
 exact⟨hc.size,hc.frame,hc.os,hc.tape,hc.output,Slot.VP res v hr B (fun _ _=>rfl),fun i u h=>VS.VP (hc.own i u (z i u h)) B (fun _ _=>rfl) (fun _ _=>rfl),
  fun i u b h A=>hc.fresh i u b (z i u h) A,fun i u b h A=>hc.apart i u b (z i u h) A,fun i j u C b E G H I=>hc.inj i j u C b (z i u E) (z j C G) H I⟩
theorem Uf{P:Program}{fn:Func}{a:Act}{w:World}(B0:fn.results= #[]):(results fn a.tmps).run P w= .ok (.tuple #[]) w:=by rw[xF,B0];simp
section
variable {F F':XG}{σ:AS}{fn:Func}{rv je rv2:ResultVar}{res s s' s2:Slot}{WB:List (Nat×VS)}
theorem GP(hF:V9 F F')(B0:fn.results= #[])(hn:B6 WB σ.d):XQ F' σ (zR F fn (.WL []) WB) .ret:=
 yK hF fun ρ a w h u=>⟨_,Uf B0,_,ρ,rfl,eu.r5 h (by simp only[Slot.ok];exact⟨[],rfl,by simp only[aV]⟩) hn⟩
theorem eU(hF:V9 F F')(B0:fn.results= #[rv])(h:RV F σ rv res)(hn:B6 WB σ.d):XQ F' σ (zR F fn res WB) .ret:=
 yK hF fun ρ a w u z=>by
  obtain⟨v,A,B⟩:=h ρ a w u z;exact⟨v,Tx B0 A,v,ρ,rfl,eu.r5 u B hn⟩
theorem dY(hF:V9 F F')(B0:fn.results= #[rv,je])(h:RV F σ rv s)(h':RV F σ je s')(hn:B6 WB σ.d):XQ F' σ (zR F fn (.WL [s,s']) WB) .ret:=
 yK hF fun ρ a w u z=>by
  obtain⟨v,A,B⟩:=h ρ a w u z;obtain⟨E,C,D⟩:=h' ρ a w u z;exact⟨_,Ty B0 A C,_,ρ,rfl,eu.r5 u (RQ B D) hn⟩
theorem zS(hF:V9 F F')(B0:fn.results= #[rv,je,rv2])(h:RV F σ rv s)(h':RV F σ je s')(h'':RV F σ rv2 s2)(hn:B6 WB σ.d):XQ F' σ (zR F fn (.WL [s,s',s2]) WB) .ret:=
 yK hF fun ρ a w u z=>by
  obtain⟨v,A,B⟩:=h ρ a w u z;obtain⟨H,C,D⟩:=h' ρ a w u z;obtain⟨I,E,G⟩:=h'' ρ a w u z;exact⟨_,Tz B0 A C E,_,ρ,rfl,eu.r5 u (RR B D G) hn⟩
end
end Go.Sw
namespace Go.Sw
open Go Go.RowKit
inductive A3 (σ:AS) (r:Nat->Nat) (A:Nat->Nat):List (Nat×VS)->Prop
 |nil:A3 σ r A []
 |box {i:Nat} {T:TypeId} {l:List Slot} {pb:Option Nat} {ds:List (Nat×VS)}:aW σ.d (r i)=some (.box T (fK r l) pb)->A3 σ r A ds->A3 σ r A ((i,.box T l (some (A i)))::ds)
 |arr {α:Type} {i:Nat} {T:TypeId} {e:Wr α} {xs:List α} {ds:List (Nat×VS)}:aW σ.d (r i)=some (.arr T e xs)->A3 σ r A ds->A3 σ r A ((i,.arr T e xs)::ds)
 |mp {α β:Type} {i:Nat} {e:Wr α} {f:Wr β} {m:List (α×β)} {ds:List (Nat×VS)}:aW σ.d (r i)=some (.mp e f m)->A3 σ r A ds->A3 σ r A ((i,.mp e f m)::ds)
 |dp {α:Type} {i:Nat} {D:DE α} {x:α} {l:List Nat} {ds:List (Nat×VS)}:aW σ.d (r i)=some (.dp D x (l.map r))->A3 σ r A ds->A3 σ r A ((i,.dp D x l)::ds)
theorem A3.spec{σ:AS}{r:Nat->Nat}{A:Nat->Nat}{ds:List (Nat×VS)}(h:A3 σ r A ds){ρ:Nat->LV}{S:Nat->Prop}{w:World}(ho:∀i en,aW σ.d i=some en->en.ok ρ S w (ρ i))(hA:∀i b,(ρ (r i)).v= .pointer (some ⟨b,0,none⟩)->A i=b):
  ∀i en,aW ds i=some en->(∃ZA,aW σ.d (r i)=some ZA)/\en.ok (fun i=>ρ (r i)) S w (ρ (r i)):=by
 induction h with
 |nil=>intro i en h;simp[aW] at h
 |box u _ B=>
  rename_i j T l G ds _;intro i en h;rw[cK] at h;split at h
  ·rename_i z;subst z;cases h;have F:=ho _ _ u;refine⟨⟨_,u⟩,?_⟩;have C:((VS.box T l G).map r).ok ρ S w (ρ (r j)):=F;rw[Gz] at C;obtain⟨⟨b,I,E,K,L⟩,_⟩:=C;exact⟨⟨b,I,E,K,L⟩,fun c H=>by cases H;rw[E,hA j b E]⟩
  ·exact B i en h
 |arr u _ B=>
  rename_i j T e xs ds _;intro i en h;rw[cK] at h;split at h
  ·rename_i z;subst z;cases h;exact⟨⟨_,u⟩,ho _ _ u⟩
  ·exact B i en h
 |mp u _ B=>
  rename_i j e f m ds _;intro i en h;rw[cK] at h;split at h
  ·rename_i z;subst z;cases h;exact⟨⟨_,u⟩,ho _ _ u⟩
  ·exact B i en h
 |dp u _ B=>
  rename_i j D x l ds _;intro i en h;rw[cK] at h;split at h
  ·rename_i z;subst z;cases h;refine⟨⟨_,u⟩,?_⟩;have C:((VS.dp D x l).map r).ok ρ S w (ρ (r j)):=ho _ _ u
   rwa [Gz] at C
  ·exact B i en h
def iI(l:Nat):List Nat->Bool
 | []=>false
 |i::r=>bif Nat.beq i l then true else iI l r
theorem jB{l:Nat}:∀{r:List Nat},iI l r=true↔l∈r
 | []=>by simp[iI]
 |i::r=>by
  simp only[iI];cases hb:Nat.beq i l with
  |true=>have:=w9 hb;subst this;simp
  |false=>
   have:l≠i:=fun e=>by subst e;simp at hb
   simp[jB,this]
inductive ZE (σ:AS) (r:Nat->Nat) (A:Nat->Nat):List (Nat×VS)->List (Nat×VS)->List Nat->Prop
 |nil:ZE σ r A [] [] []
 |box {i:Nat} {T T0:TypeId} {l l0:List Slot} {pb:Option Nat} {ds D:List (Nat×VS)} {K:List Nat}:aW σ.d (r i)=some (.box T0 l0 pb)->ZE σ r A ds D K->iI (r i) K=false->ZE σ r A ((i,.box T l (some (A i)))::ds) ((r i,.box T (fK r l) pb)::D) (r i::K)
 | U2 {i:Nat} {T:TypeId} {l:List Slot} {ds D:List (Nat×VS)} {K:List Nat}:ZE σ r A ds D K->iI (r i) K=false->ZE σ r A ((i,.box T l none)::ds) ((r i,.box T (fK r l) none)::D) K
 |arr {α:Type} {i:Nat} {T:TypeId} {e:Wr α} {xs:List α} {ds D:List (Nat×VS)} {K:List Nat}:ZE σ r A ds D K->iI (r i) K=false->ZE σ r A ((i,.arr T e xs)::ds) ((r i,.arr T e xs)::D) K
 |mp {α β:Type} {i:Nat} {e:Wr α} {f:Wr β} {m:List (α×β)} {ds D:List (Nat×VS)} {K:List Nat}:ZE σ r A ds D K->iI (r i) K=false->ZE σ r A ((i,.mp e f m)::ds) ((r i,.mp e f m)::D) K
 |dp {α:Type} {i:Nat} {E:DE α} {x:α} {l:List Nat} {ds D:List (Nat×VS)} {K:List Nat}:ZE σ r A ds D K->iI (r i) K=false->ZE σ r A ((i,.dp E x l)::ds) ((r i,.dp E x (l.map r))::D) K
theorem ZE.spec{σ:AS}{r:Nat->Nat}{A:Nat->Nat}{ds D:List (Nat×VS)}{K:List Nat}(h:ZE σ r A ds D K)(aXx:∀i j,r i=r j->i=j):
  (∀l en',aW D l=some en'->∃i en,l=r i/\aW ds i=some en/\(en'=en.map r\/∃T T0 m l0 pb,en= .box T m (some (A i))/\en'= .box T (fK r m) pb/\aW σ.d (r i)=some (.box T0 l0 pb)))/\
  (∀i en,aW ds i=some en->∃en',aW D (r i)=some en')/\(∀k∈K,∃i T m T0 l0 pb,k=r i/\aW ds i=some (.box T m (some (A i)))/\aW σ.d k=some (.box T0 l0 pb)):=by
 have step:∀{i:Nat} {en en':VS} {ds D:List (Nat×VS)},((∀l en',aW D l=some en'->∃i en,l=r i/\aW ds i=some en/\(en'=en.map r\/∃T T0 m l0 pb,en= .box T m (some (A i))/\en'= .box T (fK r m) pb/\aW σ.d (r i)=some (.box T0 l0 pb)))/\(∀i en,aW ds i=some en->∃en',aW D (r i)=some en'))->
   (en'=en.map r\/∃T T0 m l0 pb,en= .box T m (some (A i))/\en'= .box T (fK r m) pb/\aW σ.d (r i)=some (.box T0 l0 pb))->
   ((∀l B,aW ((r i,en')::D) l=some B->∃j C,l=r j/\aW ((i,en)::ds) j=some C/\(B=C.map r\/∃T T0 m l0 pb,C= .box T m (some (A j))/\B= .box T (fK r m) pb/\aW σ.d (r j)=some (.box T0 l0 pb)))/\
    (∀j C,aW ((i,en)::ds) j=some C->∃B,aW ((r i,en')::D) (r j)=some B)):=by
  rintro i en en' ds D ⟨U,V⟩ X;refine⟨fun l B H=>?_,fun j C M=>?_⟩
  ·rw[cK] at H;split at H
   ·rename_i I;subst I;cases H;exact⟨i,en,rfl,by rw[cK,WV rfl],X⟩
   ·rename_i I;obtain⟨j,C,rfl,P,Q⟩:=U l B H;exact⟨j,C,rfl,by rw[cK,WM (fun e=>I (by rw[e]))];exact P,Q⟩
  ·rw[cK] at M;split at M
   ·rename_i L;subst L;exact⟨en',by rw[cK,WV rfl]⟩
   ·rename_i L;obtain⟨B,R⟩:=V j C M;exact⟨B,by rw[cK,WM (fun e=>L (aXx _ _ e))];exact R⟩
 have G:∀{i:Nat} {en:VS} {ds:List (Nat×VS)} {K:List Nat},iI (r i) K=false->(∀k∈K,∃i T m T0 l0 pb,k=r i/\aW ds i=some (.box T m (some (A i)))/\aW σ.d k=some (.box T0 l0 pb))->∀k∈K,∃j T m T0 l0 pb,k=r j/\aW ((i,en)::ds) j=some (.box T m (some (A j)))/\aW σ.d k=some (.box T0 l0 pb):=by
  intro i en ds K z u k F;obtain⟨j,T,m,T0,l0,pb,rfl,h,S⟩:=u k F;have O:i≠j:=fun e=>by subst e;rw[jB.2 F] at z;cases z
  exact⟨j,T,m,T0,l0,pb,rfl,by rw[cK,WM O];exact h,S⟩
 induction h with
 |nil=>exact⟨fun l en h=>by simp[aW] at h,fun i en h=>by simp[aW] at h,fun k h=>by simp at h⟩
 |box N _ z u=>
  rename_i i T T0 l l0 pb ds D K _;obtain⟨a,b⟩:=step (i:=i) (en:= .box T l (some (A i))) (en':= .box T (fK r l) pb) ⟨u.1,u.2.1⟩ (.inr ⟨T,T0,l,l0,pb,rfl,rfl,N⟩);refine⟨a,b,fun k F=>?_⟩;rcases o6.1 F with rfl | F
  ·exact⟨i,T,l,T0,l0,pb,rfl,by rw[cK,WV rfl],N⟩
  ·exact G z u.2.2 k F
 | U2 _ z u=>
  rename_i i T l ds D K _;obtain⟨a,b⟩:=step (i:=i) (en:= .box T l none) (en':= .box T (fK r l) none) ⟨u.1,u.2.1⟩ (.inl rfl);exact⟨a,b,G z u.2.2⟩
 |arr _ z u=>
  rename_i α i T e xs ds D K _;obtain⟨a,b⟩:=step (i:=i) (en:= .arr T e xs) (en':= .arr T e xs) ⟨u.1,u.2.1⟩ (.inl rfl);exact⟨a,b,G z u.2.2⟩
 |mp _ z u=>
  rename_i α β i e f m ds D K _;obtain⟨a,b⟩:=step (i:=i) (en:= .mp e f m) (en':= .mp e f m) ⟨u.1,u.2.1⟩ (.inl rfl);exact⟨a,b,G z u.2.2⟩
 |dp _ z u=>
  rename_i α i E x l ds D K _;obtain⟨a,b⟩:=step (i:=i) (en:= .dp E x l) (en':= .dp E x (l.map r)) ⟨u.1,u.2.1⟩ (.inl rfl);exact⟨a,b,G z u.2.2⟩
def iZ(d:List (Nat×VS)):List Nat->List (Nat×VS)
 | []=>d
 |i::H=>wD (iZ d H) i
theorem qA{d:List (Nat×VS)}{k:Nat}:∀{H:List Nat},aW (iZ d H) k=if k∈H then none else aW d k
 | []=>by simp[iZ]
 |i::H=>by
  rw[iZ,Le];by_cases h:k=i
  ·simp[h]
  ·rw[WM h,qA];simp[h]
def Az(g:List (Nat×Slot))(rest:List (Nat×VS))(H K:List Nat)(D:List (Nat×VS)):Bool:=
 (g.all fun y=>y.2.YJ.all fun l=> !iI l H || iI l K || !iI l (D.map (·.1))) && rest.all fun y=>y.2.YJ.all fun l=> !iI l H || iI l K || !iI l (D.map (·.1))
def Oy(σ:AS)(H:List Nat)(D:List (Nat×VS)):Bool:=
 D.all fun x=>iI x.1 H || ((σ.d.all fun y=> !Nat.beq y.1 x.1 && !iI x.1 y.2.YJ) && σ.g.all fun y=> !iI x.1 y.2.YJ)
inductive A8 (σ:AS) (r:Nat->Nat):List Operand->List Slot->Prop
 |nil:A8 σ r [] []
 |cons {x:Operand} {s:Slot} {xs:List Operand} {l:List Slot}:Arg σ false x (s.map r)->A8 σ r xs l->A8 σ r (x::xs) (s::l)
theorem A8.spec{σ:AS}{r:Nat->Nat}{xs:List Operand}{l:List Slot}(h:A8 σ r xs l){ρ S a w}{ys:Array Operand}(bm:∀x∈xs,x∈ys)(K:p3 σ ys ρ S a w):aV (fun i=>ρ (r i)) S w l (xs.map a.eval):=by
 induction h with
 |nil=>simp[aV]
 |cons z _ A=>
  rename_i x s xs l _;simp only[aV,D8];refine⟨_,_,rfl,?_,A fun y u=>bm y (Z6 _ u)⟩;rw[<-Ly];exact z ρ S a w ⟨K.low,fun y u=>K.slot y (by simp at u;subst u;exact bm _ Z8),fun y u=>K.B9 y (by simp at u;subst u;exact bm _ Z8)⟩
def o5(v:Value):Nat:=match v with | .pointer (some a)=>a.block | _=>0
section
variable {F:XG}{σ:AS}{s:Slot}{d:Option Tmp}{ty:TypeId}{p:String}{af:Array Edge}{gd:Option (Nat×Bool)}
theorem St.I6{ρ ρ':Nat->LV}{r:Nat->Nat}{A:Nat->Nat}{a:Act}{w w':World}{v:Value}{res:Slot}{YE WB D:List (Nat×VS)}{K H:List Nat}(hr:∀i j,r i=r j->i=j)(hc:Core F σ.d ρ w)
  (hs:∀t s,lk σ.g t=some s->s.ok ρ (Un F.S0 ρ σ.d) w (a.tmps.getD t undef)) (hz:a.tmps.size=F.N) (YX:a.defers=F.df) (hA:∀i b,(ρ (r i)).v= .pointer (some ⟨b,0,none⟩)->A i=b) (B2:A3 σ r A YE) (D5:ZE σ r A WB D K)
  (hH:YE.map (fun x=>r x.1)=H) (YF:Az σ.g (iZ σ.d H) H K D=true) (O2:Oy σ H D=true) (YO:lE res WB=true) (ix:K.all (fun k=>iI k H)=true) (c9:gR d F.N=true)
  (ho:eu (fun k=>Un F.S0 ρ σ.d k/\¬mP (fun i=>ρ (r i)) YE k) (mP (fun i=>ρ (r i)) YE) w res WB ρ' v w'):St F ⟨iS d (res.map r) σ.g,D++iZ σ.d H⟩ (a.put d v) w':=by
 obtain⟨aa,a7,a8⟩:=D5.spec hr;have al:=B2.spec hc.own hA;have am:∀i en,aW YE i=some en->r i∈H:=fun i en h=>by rw[<-hH];exact bq.2 ⟨(i,en),mQ h,rfl⟩
 have an:∀l,l∈H->∃i en,l=r i/\(i,en)∈YE:=fun l h=>by rw[<-hH] at h;obtain⟨x,B,z⟩:=bq.1 h;exact⟨x.1,x.2,z.symm,B⟩
 have ba:∀l,l∈H->∃i en,l=r i/\aW YE i=some en:=fun l h=>by
  obtain⟨i,en,B,z⟩:=an l h;cases hx:aW YE i with
  |some e=>exact⟨i,e,B,hx⟩
  |none=>
   exfalso;clear B2 al hH ho am an
   induction YE with
   |nil=>simp at z
   |cons y YE ih=>
    obtain⟨j,ej⟩:=y;rw[cK] at hx;split at hx
    ·cases hx
    ·rename_i T3;rcases o6.1 z with z | z
     ·simp at z;exact T3 z.1.symm
     ·exact ih z hx
 have y8:∀k,mP (fun i=>ρ (r i)) YE k->∃l en,l∈H/\aW σ.d l=some en/\qQ (ρ l) k:=by
  rintro k ⟨i,en,B,z⟩;obtain⟨⟨ZA,u⟩,_⟩:=al i en B;exact⟨r i,ZA,am i en B,u,z⟩
 have ao:∀k,mP (fun i=>ρ (r i)) YE k->Un F.S0 ρ σ.d k:=fun k h=>by obtain⟨l,en,_,B,z⟩:=y8 k h;exact .inr ⟨l,en,B,z⟩
 have j0:∀l en k,l∉H->aW σ.d l=some en->qQ (ρ l) k->¬mP (fun i=>ρ (r i)) YE k:=by
  intro l en k Q B z u;obtain⟨M,C,E,G,L⟩:=y8 k u;exact Q (hc.inj l M en C k B G z L ▸ E)
 classical
 let ρn:Nat->LV:=fun l=>if h:∃i,l=r i/\(aW WB i).isSome=true then ρ' (Classical.choose h) else ρ l
 have R:∀i en,aW WB i=some en->ρn (r i)=ρ' i:=by
  intro i en h;have ad:∃j,r i=r j/\(aW WB j).isSome=true:=⟨i,rfl,by rw[h];rfl⟩
  show (if h:∃j,r i=r j/\(aW WB j).isSome=true then ρ' (Classical.choose h) else ρ (r i))=_;rw[dif_pos ad];have:=aD3 ad;rw[<-hr _ _ this.1]
 have iw:∀l,(∀en,aW D l≠some en)->ρn l=ρ l:=by
  intro l h;have ad:¬∃i,l=r i/\(aW WB i).isSome=true:=by
   rintro⟨i,rfl,z⟩;cases hx:aW WB i with
   |none=>rw[hx] at z;cases z
   |some en=>obtain⟨C,u⟩:=a7 i en hx;exact h _ u
  show (if h:∃i,l=r i/\(aW WB i).isSome=true then ρ' (Classical.choose h) else ρ l)=_;rw[dif_neg ad]
 have hK:∀l,l∈K->(ρn l).v=(ρ l).v:=by
  intro l Q;obtain⟨i,T,m,T0,l0,pb,rfl,B,z⟩:=a8 l Q;have a0:=(ho.own i _ B).2 (A i) rfl;obtain⟨⟨b,cs,X,_⟩,_⟩:=hc.own _ _ z;rw[R i _ B,a0,X,hA i b X]
 have a1:∀l,iI l (D.map (·.1))=false->∀en,aW D l≠some en:=fun l h en S=>by
  have B:l∈D.map (·.1):=bq.2 ⟨(l,en),mQ S,rfl⟩;rw[jB.2 B] at h;cases h
 have y9:∀(q:Slot),(q.YJ.all fun l=> !iI l H || iI l K || !iI l (D.map (·.1)))=true->(∀l∈q.YJ,aW D l=none\/iI l H=true)->mO ρ ρn q.YJ:=by
  intro q B z l Q;rcases z l Q with u | u
  ·exact congrArg LV.v (iw l fun en S=>by rw[u] at S;cases S)
  ·have:=o7.1 B l Q;rw[u] at this;cases hm:iI l (D.map (·.1)) with
   |false=>exact congrArg LV.v (iw l (a1 l hm))
   |true=>rw[hm] at this;exact hK l (jB.1 (by simpa using this))
 have th:∀l en,aW D l=some en->iI l H=true\/((∀y∈σ.d,y.1≠l/\l∉y.2.YJ)/\∀y∈σ.g,l∉y.2.YJ):=by
  intro l en h;have:=o7.1 O2 _ (mQ h);rcases Bool.or_eq_true_iff.1 this with h | h
  ·exact .inl h
  ·rw[E7,o7,o7] at h;refine .inr ⟨fun y hy=>?_,fun y hy O8=>?_⟩
   ·have u:=h.1 y hy;rw[E7] at u;refine⟨fun e=>?_,fun O8=>?_⟩
    ·have:=u.1;rw[e] at this;simp at this
    ·have:=u.2;rw[jB.2 O8] at this;cases this
   ·have:=h.2 y hy;rw[jB.2 O8] at this;cases this
 simp only[Az,E7,o7] at YF;have vk:∀t s,lk σ.g t=some s->mO ρ ρn s.YJ:=by
  intro t s O;refine y9 s (o7.2 (YF.1 _ (Lu O))) fun l Q=>?_;cases hx:aW D l with
  |none=>exact .inl rfl
  |some en=>
   rcases th l en hx with h |⟨_,h⟩
   ·exact .inr h
   ·exact absurd Q (h _ (Lu O))
 have O1:∀l en,l∉H->aW σ.d l=some en->ρn l=ρ l/\mO ρ ρn en.YJ:=by
  intro l en Q h;refine⟨iw l fun C S=>?_,?_⟩
  ·rcases th l C S with P |⟨P,_⟩
   ·exact Q (jB.1 P)
   ·exact(P _ (mQ h)).1 rfl
  ·have YD:(l,en)∈iZ σ.d H:=mQ (by rw[qA,WM Q];exact h);have:=YF.2 _ YD;intro q hq;have B:=this q hq;cases hx:aW D q with
   |none=>exact congrArg LV.v (iw q fun en S=>by rw[hx] at S;cases S)
   |some C=>
    rcases th q C hx with P |⟨P,_⟩
    ·have A4:q∈D.map (·.1):=bq.2 ⟨(q,C),mQ hx,rfl⟩;rw[P,jB.2 A4] at B;exact hK q (jB.1 (by simpa using B))
    ·exact absurd hq (P _ (mQ h)).2
 have O3:∀l en,aW (D++iZ σ.d H) l=some en->aW D l=some en\/(aW D l=none/\l∉H/\aW σ.d l=some en):=by
  intro l en h;rw[gN] at h;cases hx:aW D l with
  |some e=>rw[hx] at h;simp at h;subst h;exact .inl rfl
  |none=>
   rw[hx] at h;simp only[Option.none_or,qA] at h;split at h
   ·cases h
   ·rename_i hn;exact .inr ⟨rfl,hn,h⟩
 have ap:∀k,Un F.S0 ρn (D++iZ σ.d H) k->Un (fun k=>Un F.S0 ρ σ.d k/\¬mP (fun i=>ρ (r i)) YE k) ρ' WB k:=by
  rintro k (h |⟨l,en,B,z⟩)
  ·refine .inl ⟨.inl h,fun P=>?_⟩;obtain⟨l,en,_,u,E⟩:=y8 k P;exact hc.apart l en k u E h
  ·rcases O3 l en B with u |⟨_,u,E⟩
   ·obtain⟨i,C,rfl,G,_⟩:=aa l en u;rw[R i C G] at z;exact .inr ⟨i,C,G,z⟩
   ·rw[(O1 l en u E).1] at z;exact .inl ⟨.inr ⟨l,en,E,z⟩,j0 l en k u E z⟩
 have a2:∀k,k<w.heap.size->Un (fun k=>Un F.S0 ρ σ.d k/\¬mP (fun i=>ρ (r i)) YE k) ρ' WB k->Un F.S0 ρ σ.d k:=by
  rintro k U (h |⟨i,en,B,z⟩)
  ·exact h.1
  ·rcases (ho.fresh i en k B z).1 with h | h
   ·omega
   ·exact ao k h
 have aq:Ext (Un (fun k=>Un F.S0 ρ σ.d k/\¬mP (fun i=>ρ (r i)) YE k) ρ' WB) (Un F.S0 ρn (D++iZ σ.d H)) w' w':=⟨YQ _,fun k _ U=>⟨rfl,fun h=>U (ap k h)⟩⟩
 have hE:Ext (Un F.S0 ρ σ.d) (Un F.S0 ρn (D++iZ σ.d H)) w w':=⟨ho.size,fun k U hn=>⟨ho.frame k U (fun h=>hn (ao k h)),fun h=>hn (a2 k U (ap k h))⟩⟩
 simp only[lE,E7,o7] at YO;have cq:∀i en,aW WB i=some en->mO ρ' (fun i=>ρn (r i)) en.YJ:=by
  intro i en h j hj;have:=YO.2 _ (mQ h) j hj;cases hx:aW WB j with
  |none=>rw[hx] at this;cases this
  |some e=>exact congrArg LV.v (R j e hx)
 have a3:Core F (D++iZ σ.d H) ρn w':=by
  refine⟨hc.low,eh hc.size ho.size,fun k U jr=>?_,ho.os.trans hc.os,ho.tape.trans hc.tape,ho.output.trans hc.output,fun l en h=>?_,fun l en b h I=>?_,fun l M en C b h P I V=>?_,fun l en b h I=>?_⟩
  ·rw[ho.frame k (R4 U hc.size) (fun h=>?_)]
   ·exact hc.frame k U jr
   ·obtain⟨l,en,_,B,z⟩:=y8 k h;rcases (hc.fresh l en k B z).1 with u | u
    ·omega
    ·exact jr u
  ·rcases O3 l en h with u |⟨_,u,E⟩
   ·obtain⟨i,C,rfl,G,L⟩:=aa l en u;have h7:=VS.VP (ρ':=fun i=>ρn (r i)) (ho.own i C G) aq (cq i C G) (fun _ _=>rfl);rw[R i C G];rcases L with L |⟨T,T0,m,l0,pb,X,h9,U1⟩
    ·rw[L,Gz];exact h7
    ·subst X h9;obtain⟨kq,ko⟩:=h7;have a4:((VS.box T m none).map r).ok ρn (Un F.S0 ρn (D++iZ σ.d H)) w' (ρ' i):=by rw[Gz];exact⟨kq,fun c hc=>by cases hc⟩
     refine⟨a4.1,fun c a6=>?_⟩;obtain⟨_,a9⟩:=hc.own _ _ U1;have a5:=a9 c a6;rw[ko (A i) rfl,hA i c a5]
   ·obtain⟨G,L⟩:=O1 l en u E;rw[G];exact VS.VP (hc.own l en E) hE L (fun b I=>ho.frame b (hc.fresh l en b E I).2 (j0 l en b u E I))
  ·rcases O3 l en h with u |⟨_,u,E⟩
   ·obtain⟨i,C,rfl,G,_⟩:=aa l en u;rw[R i C G] at I;obtain⟨L,h7⟩:=ho.fresh i C b G I;refine⟨?_,h7⟩;rcases L with L | L
    ·exact .inl (eh hc.size L)
    ·obtain⟨M,e',_,X,h9⟩:=y8 b L;exact(hc.fresh M e' b X h9).1
   ·rw[(O1 l en u E).1] at I;exact⟨(hc.fresh l en b E I).1,R4 (hc.fresh l en b E I).2 ho.size⟩
  ·have au:∀i cw l2 af,aW WB i=some cw->qQ (ρ' i) b->l2∉H->aW σ.d l2=some af->qQ (ρ l2) b->False:=by
    intro i cw l2 af B z u E G;rcases (ho.fresh i cw b B z).1 with L | L
    ·have:=(hc.fresh l2 af b E G).2;omega
    ·exact j0 l2 af b u E G L
   rcases O3 l en h with u |⟨_,u,E⟩
   ·obtain⟨i,e1,rfl,G,_⟩:=aa l en u;rw[R i e1 G] at I;rcases O3 M C P with iy |⟨_,iy,ac⟩
    ·obtain⟨i',ab,rfl,yo,_⟩:=aa M C iy;rw[R i' ab yo] at V;rw[ho.inj i i' e1 ab b G yo I V]
    ·rw[(O1 M C iy ac).1] at V;exact(au i e1 M C G I iy ac V).elim
   ·rw[(O1 l en u E).1] at I;rcases O3 M C P with iy |⟨_,iy,ac⟩
    ·obtain⟨i',ab,rfl,yo,_⟩:=aa M C iy;rw[R i' ab yo] at V;exact(au i' ab l en yo V u E I).elim
    ·rw[(O1 M C iy ac).1] at V;exact hc.inj l M en C b E ac I V
  ·rcases O3 l en h with u |⟨_,u,E⟩
   ·obtain⟨i,C,rfl,G,_⟩:=aa l en u;rw[R i C G] at I;intro L;refine ho.apart i C b G I ⟨.inl L,fun h7=>?_⟩;obtain⟨M,e',_,X,h9⟩:=y8 b h7;exact hc.apart M e' b X h9 L
   ·rw[(O1 l en u E).1] at I;exact hc.apart l en b E I
 refine⟨⟨ρn,a3,fun t q O=>?_⟩,by rw[lC,hz],by cases d<;>exact YX⟩;have av:∀t q,lk σ.g t=some q->q.ok ρn (Un F.S0 ρn (D++iZ σ.d H)) w' (a.tmps.getD t undef):=fun t q O=>Slot.VP q _ (hs t q O) hE (vk t q O);cases d with
 |none=>exact av t q O
 |some q0=>
  simp only[iS] at O;have XK:q0<a.tmps.size:=by rw[hz];exact A6 c9
  rw[lD a q0 v t XK];rw[mG] at O;split at O
  ·rename_i B;cases O;rw[WV B,Ly];refine Slot.VP res v ho.slot aq fun j hj=>?_;have:=YO.1 j hj;cases hx:aW WB j with
   |none=>rw[hx] at this;cases this
   |some e=>exact congrArg LV.v (R j e hx)
  ·rename_i B;rw[WM B];exact av t q O
theorem sQ{f:FuncId}{xs:List Operand}{ts:Array TypeId}{ss:List Slot}{res:Slot}{YE WB:(Nat->Nat)->List (Nat×VS)}{D:List (Nat×VS)}{K H:List Nat}(r:Nat->Nat)(hr:∀i j,r i=r j->i=j)
  (hc:∀A,VR F.P f ss (YE A) res (WB A)) (XX:∀args w,(callFunc f args).run F.P w= .ok (.enter f args) w) (ha:A8 σ r xs ss) (B2:∀A,A3 σ r A (YE A)) (D5:∀A,ZE σ r A (WB A) D K)
  (hH:∀A,(YE A).map (fun x=>r x.1)=H) (YF:Az σ.g (iZ σ.d H) H K D=true) (O2:Oy σ H D=true) (YO:∀A,lE res (WB A)=true) (ix:K.all (fun k=>iI k H)=true) (c9:gR d F.N=true):
  JM F ⟨d,.call ⟨.value (.func f),xs.toArray,ts⟩,ty,p,af,gd⟩ σ ⟨iS d (res.map r) σ.g,D++iZ σ.d H⟩:=by
 rintro a w ⟨⟨ρ,z,R⟩,hz,YX⟩;let A:Nat->Nat:=fun i=>o5 (ρ (r i)).v
 have O:∀i b,(ρ (r i)).v= .pointer (some ⟨b,0,none⟩)->A i=b:=fun i b h=>by show o5 (ρ (r i)).v=b;rw[h];rfl
 have B:=(B2 A).spec z.own O;have S:∀k,(Un F.S0 ρ σ.d k/\¬mP (fun i=>ρ (r i)) (YE A) k)->k<w.heap.size:=by
  rintro k ⟨h |⟨i,u,L,M⟩,_⟩
  ·exact R4 (z.low k h) z.size
  ·exact(z.fresh i u k L M).2
 have Q:Un (fun k=>Un F.S0 ρ σ.d k/\¬mP (fun i=>ρ (r i)) (YE A) k) (fun i=>ρ (r i)) (YE A)=Un F.S0 ρ σ.d:=by
  funext k;refine propext ⟨fun h=>?_,fun h=>?_⟩
  ·rcases h with h |⟨i,u,L,M⟩
   ·exact h.1
   ·obtain⟨⟨I,C⟩,_⟩:=B i u L;exact .inr ⟨r i,I,C,M⟩
  ·by_cases E:mP (fun i=>ρ (r i)) (YE A) k
   ·exact .inr E
   ·exact .inl ⟨h,E⟩
 have T:Ins (fun k=>Un F.S0 ρ σ.d k/\¬mP (fun i=>ρ (r i)) (YE A) k) (fun i=>ρ (r i)) w (YE A):=by
  refine⟨fun i u h=>?_,fun i u b h G=>?_,fun i u b h G V=>V.2 ⟨i,u,h,G⟩,fun i j u X b hi hj bi bj=>?_⟩
  ·rw[Q];exact(B i u h).2
  ·obtain⟨⟨I,C⟩,_⟩:=B i u h;exact(z.fresh _ _ b C G).2
  ·obtain⟨⟨I,C⟩,_⟩:=B i u hi;obtain⟨⟨cw,h4⟩,_⟩:=B j X hj;exact hr _ _ (z.inj _ _ _ _ b C h4 bi bj)
 have K:=cI z R (Op.call ⟨.value (.func f),xs.toArray,ts⟩).operands;have U:=ha.spec (ys:=(Op.call ⟨.value (.func f),xs.toArray,ts⟩).operands) (fun x hx=>by simp[Op.operands,Call.operands,hx]) K;refine VU.enter (uA XX) ((hc A _ w _ _ S T (by rw[Q];exact U)).mono ?_);rintro e w' ⟨v,ρ',rfl,E⟩;exact⟨v,rfl,St.I6 hr z R hz YX O (B2 A) (D5 A) (hH A) YF O2 (YO A) ix c9 E⟩
end
def TJ(a b i:Nat):Nat:=bif Nat.beq i a then b else bif Nat.beq i b then a else i
def Bv:List (Nat×Nat)->Nat->Nat
 | [],i=>i
 | (a,b)::l,i=>Bv l (TJ a b i)
theorem AN(a b i:Nat):TJ a b (TJ a b i)=i:=by
 unfold TJ;cases h1:Nat.beq i a<;>cases h2:Nat.beq i b<;>simp only[XT,pF,h1,h2]
 all_goals first
  | (have:=w9 h1;subst this;cases h3:Nat.beq b i<;>simp_all [zl];done)
  | (have:=w9 h2;subst this;cases h3:Nat.beq a i<;>simp_all [zl];done)
  |simp_all
theorem eT:∀(l:List (Nat×Nat)) (i j:Nat),Bv l i=Bv l j->i=j
 | [],_,_,h=>h
 | (a,b)::l,i,j,h=>by
  have:=eT l _ _ h;rw[<-AN a b i,this,AN]
end Go.Sw
