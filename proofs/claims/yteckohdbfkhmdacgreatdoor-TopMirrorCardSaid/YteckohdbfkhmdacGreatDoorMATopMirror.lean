/- The library over the model: how values lie, what is ours in memory, rules for operations, calls, loops. Conditions: none. -/
import Derived.Orders
import Derived.Tactics
import Derived.Below
import Derived.TacticsIn
import Derived.OrdersIn
import Derived.Laws.Rows
import Derived.RangeFuncRecord
import Derived.Laws.StructEq
import Derived.Laws.AppendOwn
import Derived.Laws.CopyRow
import Derived.Laws.MakeOwn
import Derived.Laws.Tables
import Derived.ChangeKeysEq
import Derived.Laws.Cover3
set_option linter.unusedVariables false
set_option linter.unusedSimpArgs false
namespace Go.Sw
abbrev cM:=@Option.bind_some
abbrev pF:=@cond_false
abbrev pT:=@Option.some.inj
abbrev sM:=@List.length_append
abbrev ZV:=@Option.isSome_none
abbrev s8:=@Nat.eq_of_beq_eq_true
abbrev XG:=@cond_true
abbrev w7:=@Nat.le_of_ble_eq_true
abbrev D3:=@List.getElem?_eq_getElem
abbrev m6:=@Int.toNat_natCast
abbrev j4:=@List.all_eq_true
abbrev c8:=@decide_eq_false
abbrev YO:=@Nat.le_refl
abbrev WA:=@if_neg
abbrev O4:=@List.getD_eq_getElem?_getD
abbrev A8:=@List.append_assoc
abbrev A7:=@Option.some.injEq
abbrev WJ:=@if_pos
abbrev m5:=@List.mem_cons
abbrev C0:=@List.length_take
abbrev D2:=@List.length_cons
abbrev D1:=@Bool.and_eq_true
abbrev fy:=@List.eq_nil_of_length_eq_zero
abbrev C9:=@decide_eq_true
abbrev X3:=@List.getElem?_eq_none
abbrev X2:=@List.take_append_drop
abbrev O3:=@Nat.lt_of_lt_of_le
abbrev O2:=@Bool.false_eq_true
abbrev A6:=@decide_false
abbrev Y8:=@List.mem_cons_of_mem
abbrev E5:=@List.map_cons
abbrev N2:=@Nat.mod_eq_of_lt
abbrev Z0:=@Array.length_toList
abbrev K9:=@List.mem_append
abbrev ZW:=@if_false
abbrev Y9:=@List.mem_cons_self
abbrev R6:=@List.length_drop
abbrev oe:=@Array.getD_eq_getD_getElem?
abbrev R5:=@List.foldl_cons
abbrev T6:=@List.length_nil
abbrev ZU:=@if_true
abbrev X1:=@List.append_nil
abbrev K3:=@Nat.lt_or_ge
abbrev Y7:=@List.nil_append
abbrev I6:=@Nat.add_mul
abbrev fx:=@Option.isNone_none
abbrev ek:=@List.cons_append
abbrev ei:=@List.getElem_mem
abbrev oc:=@List.length_replicate
abbrev vg:=@Int.fdiv_eq_ediv_of_nonneg
abbrev ak:=@Prod.mk.injEq
abbrev ka:=@List.getElem?_map
abbrev ze:=@Array.getElem?_eq_some_iff
abbrev bh:=@List.mem_map
abbrev ug:=@Nat.mul_le_mul_right
abbrev uf:=@List.getElem?_set_ne
abbrev jx:=@List.length_map
abbrev db:=@Nat.le_trans
abbrev ue:=@List.length_pos_iff
abbrev aBt:=@Array.getElem?_eq_getElem
abbrev aBu:=@List.getElem?_append_left
abbrev zd:=@Array.getElem?_eq_none
abbrev jv:=@List.mem_range
abbrev pq:=@Bool.not_eq_true'
abbrev cz:=@decide_true
abbrev aBz:=@List.getElem?_set_self
abbrev px:=@Nat.min_eq_left
abbrev pw:=@Option.map_some
abbrev lx:=@Bool.not_true
abbrev uh:=@Bool.not_eq_true
abbrev zh:=@List.filter_append
abbrev pv:=@List.drop_left
abbrev aB6:=@List.getElem?_modify
abbrev aB7:=@List.mem_of_getElem?
abbrev zg:=@BitVec.toNat_ofNat
abbrev zf:=@List.mem_singleton
abbrev aCa:=@List.take_of_length_le
abbrev aCb:=@List.getElem?_eq_some_iff
abbrev yz:=@List.ext_getElem?
abbrev aCd:=@Nat.xor_lt_two_pow
abbrev yy:=@Option.getD_some
abbrev aCf:=@List.length_eq_one_iff
abbrev ve:=@Bool.not_false
abbrev aCh:=@Array.toList_modify
abbrev yx:=@Bool.or_eq_true
abbrev yw:=@List.mem_filter
abbrev aCk:=@List.zipIdx_cons
abbrev lv:=@Nat.mod_lt
abbrev po:=@Nat.one_mul
abbrev yv:=@List.take_left
abbrev aCo:=@List.mem_of_mem_take
abbrev aCp:=@List.getElem?_set
abbrev aCq:=@List.map_append
abbrev aCr:=@List.length_set
abbrev aCs:=@List.not_mem_nil
abbrev aCt:=@List.mapM_cons
abbrev aCu:=@Nat.mul_le_mul
abbrev aCv:=@Option.isSome_some
abbrev aCw:=@List.length_singleton
abbrev aCx:=@List.length_filter_le
abbrev aCy:=@List.drop_eq_getElem_cons
abbrev aCz:=@List.mem_or_eq_of_mem_set
abbrev aC0:=@List.flatten_cons
abbrev aC1:=@decide_eq_true_eq
abbrev zb:=@Nat.beq_refl
abbrev za:=@Nat.zero_add
abbrev aC4:=@List.foldl_append
abbrev aC5:=@Decidable.not_not
abbrev aC6:=@List.getElem_append_left
abbrev aC7:=@Bool.eq_false_or_eq_true
abbrev fw:=@Ne.symm
abbrev aC9:=@List.filter_eq_self
abbrev aDa:=@List.map_toArray
abbrev aDb:=@List.take_length
abbrev aDc:=@List.any_eq_true
abbrev aDd:=@Nat.and_two_pow_sub_one_eq_mod
abbrev yu:=@Int.le_refl
abbrev aDf:=@Nat.add_comm
abbrev aDg:=@Nat.add_zero
abbrev aDh:=@List.mem_filterMap
abbrev aDi:=@Array.getElem?_setIfInBounds
abbrev aDj:=@not_true_eq_false
abbrev aDk:=@Array.toList_push
abbrev aDl:=@of_decide_eq_true
abbrev aDm:=@Array.getElem?_append_left
abbrev aDn:=@List.mem_append_left
abbrev aDo:=@List.getElem?_append_right
abbrev aDp:=@Nat.mod_two_eq_zero_or_one
abbrev aDq:=@List.mem_of_mem_drop
abbrev aDr:=@List.replicate_succ
abbrev aDs:=@Nat.add_assoc
abbrev aDt:=@Nat.add_sub_cancel
abbrev aDu:=@List.getElem?_replicate
abbrev aDv:=@List.set_eq_take_append_cons_drop
abbrev aDw:=@List.mapM_toArray
abbrev aDx:=@List.drop_drop
abbrev aDy:=@List.drop_eq_nil_of_le
abbrev aDz:=@Array.all_eq_true_iff_forall_mem
abbrev aD0:=@List.map_nil
abbrev aD1:=@Nat.or_lt_two_pow
abbrev aD2:=@Classical.choose_spec
abbrev aD3:=@List.singleton_append
abbrev aD4:=@List.filter_cons
abbrev aD5:=@List.drop_append
abbrev aD6:=@List.mem_flatMap
abbrev aD7:=@List.eq_nil_iff_forall_not_mem
abbrev aD8:=@Array.size_replicate
abbrev aD9:=@Nat.pow_le_pow_right
abbrev aEa:=@Nat.shiftLeft_add_eq_or_of_lt
abbrev aEb:=@List.getElem_of_mem
abbrev aEc:=@Int.le_of_lt
abbrev aEd:=@Nat.mul_comm
abbrev aEe:=@List.idxOf_lt_length_of_mem
abbrev aEf:=@Nat.pow_succ
abbrev aEg:=@Array.foldl_toList
abbrev aEh:=@Nat.eq_zero_or_pos
abbrev aEi:=@Array.size_append
abbrev aEj:=@List.size_toArray
abbrev aEk:=@List.length_range
abbrev aEl:=@Nat.zero_le
abbrev aEm:=@List.any_eq_false
abbrev aEn:=@List.flatMap_cons
abbrev aEo:=@List.mapM_nil
abbrev aEp:=@Bool.true_and
abbrev aEq:=@BitVec.toNat_xor
abbrev aEr:=@BitVec.toNat_and
abbrev aEs:=@Option.getD_none
abbrev aEt:=@or_false
abbrev aEu:=@List.map_map
abbrev aEv:=@Int.tmod_nonneg
abbrev aEw:=@List.cons.injEq
abbrev aEx:=@Int.pow_pos
abbrev aEy:=@true_and
abbrev aEz:=@not_true
abbrev aE0:=@or_self
end Go.Sw
namespace Go.Sw
open Go Go.RowKit
structure Ext (S S':Nat->Prop) (w w':World):Prop where
 size:w.heap.size<=w'.heap.size
 F4:∀k,k<w.heap.size->¬S k->w'.heap[k]? =w.heap[k]?/\¬S' k
theorem Ext.refl(S:Nat->Prop)(w:World):Ext S S w w:=⟨YO _,fun _ _ h=>⟨rfl,h⟩⟩
theorem Ext.trans{S S' S'':Nat->Prop}{w w' ow:World}(h:Ext S S' w w')(k:Ext S' S'' w' ow):Ext S S'' w ow:=
 ⟨db h.size k.size,fun i u z=>by
  obtain⟨a,b⟩:=h.F4 i u z;obtain⟨c,d⟩:=k.F4 i (O3 u h.size) b
  exact⟨c.trans a,d⟩⟩
structure Wr (α:Type) where
 n:Nat
 agg:Bool
 ok:α->(Nat->Prop)->World->List Value->Prop
 len:∀{x S w cs},ok x S w cs->cs.length=n
 one:agg=false->n=1
 cell:∀{x S w cs},ok x S w cs->∀c∈cs,c.oneCell'=true
 mono:∀{x S S' w w' cs},ok x S w cs->Ext S S' w w'->ok x S' w' cs
theorem Rc{v:Value}(h:v.oneCell'=true):v.cells= #[v]:=by cases v<;>first | rfl | cases h
def Wr.pk{α:Type}(e:Wr α)(cs:List Value):Value:=if e.agg then .agg cs.toArray else cs.headD undef
def Wr.val{α:Type}(e:Wr α)(x:α)(S:Nat->Prop)(w:World)(v:Value):Prop:=∃cs,e.ok x S w cs/\v=e.pk cs
theorem gO{α:Type}{e:Wr α}{x:α}{S S' w w' v}(h:e.val x S w v)(k:Ext S S' w w'):e.val x S' w' v:=
 let ⟨cs,a,b⟩:=h;⟨cs,e.mono a k,b⟩
inductive Slot:Type 1
 |v {α:Type} (e:Wr α) (x:α)
 |ref (i:Nat)
 |ptr (i off:Nat)
 |dw (i off k n:Nat)
 |el (i k n off:Nat)
 |r8 (i off lo n cap:Nat)
 |ln (i off n cap:Nat)
 |sub (i off n:Nat)
 | XR {α:Type} (e:Wr α) (x:α)
 | ZJ (g:Nat) (cap:List Slot)
 |top
 |agg (l:List Slot)
 | WC (l:List Slot)
def VQ(w:World)(b off:Nat)(cs:List Value):Prop:=
 ∃c T fr,w.heap[b]? =some (.cells c T fr)/\∀j (h:j<cs.length),c[off+j]? =some cs[j]
def YN(v:Value):Option Nat:=match v with | .pointer (some a)=>some a.block | .slice (some a) _ _=>some a.block | .map (some r)=>some r | _=>none
def Lq(v:Value)(n:Nat):Value:=match v with | .slice (some a) _ _=> .pointer (some ⟨a.block,a.off+n,none⟩) | v=>v
def EX(v:Value)(off n cap:Nat):Value:=match v with | .pointer (some a)=> .slice (some ⟨a.block,off,none⟩) n cap | v=>v
def EY(v:Value)(off n cap:Nat):Value:=match v with | .slice (some a) _ _=> .slice (some ⟨a.block,a.off+off,none⟩) n cap | v=>v
def Tj(v:Value)(off n c:Nat):Value:=match v with | .slice (some a) _ _=> .slice (some ⟨a.block,a.off+off,none⟩) n c | .slice none _ _=> .slice none n c | v=>v
def Cv(v:Value)(n:Nat):Value:=match v with | .pointer (some a)=> .pointer (some ⟨a.block,n,none⟩) | v=>v
structure LV where
 v:Value
 x:Nat->Prop
def LV.of(v:Value):LV:=⟨v,fun _=>False⟩
def qS(u:LV)(b:Nat):Prop:=YN u.v=some b\/u.x b
theorem pD{v:Value}{b:Nat}:qS (.of v) b↔YN v=some b:=⟨fun h=>h.elim id False.elim,.inl⟩
def Ze(v:Value):Prop:=(∃a l c,v= .slice a l c)\/∃r,v= .map r
mutual
def Slot.YW(ρ:Nat->LV)(S:Nat->Prop)(w:World):Slot->List Value->Prop
 | .v e x,h=>e.ok x S w h
 | .ref i,h=>Ze (ρ i).v/\h=[(ρ i).v]
 | .ptr i off,h=>(∃b,(ρ i).v= .pointer (some ⟨b,0,none⟩))/\h=[Cv (ρ i).v off]
 | .dw i off k n,h=>(∃b,(ρ i).v= .pointer (some ⟨b,0,none⟩))/\h=[Cv (ρ i).v (off+k*n)]
 | .el i k n off,h=>(∃b o l c,(ρ i).v= .slice (some ⟨b,o,none⟩) l c)/\h=[Lq (ρ i).v (k*n+off)]
 | .r8 i off u n cap,h=>(∃b,(ρ i).v= .pointer (some ⟨b,0,none⟩))/\h=[EX (ρ i).v (off+u) n cap]
 | .ln i off n cap,h=>(∃b o l c,(ρ i).v= .slice (some ⟨b,o,none⟩) l c)/\h=[EY (ρ i).v off n cap]
 | .sub i off n,h=>(∃a l c,(ρ i).v= .slice a l c)/\∃c o,n<=c/\(o=off\/n=0)/\h=[Tj (ρ i).v o n c]
 | .XR e x,h=>∃b off ds,h=[.pointer (some ⟨b,off,none⟩)]/\b<w.heap.size/\¬S b/\VQ w b off ds/\e.ok x S w ds
 | .ZJ g cap,h=>∃vs,h=[.func (.func g) #[] vs.toArray]/\aW ρ S w cap vs
 | .top,h=>h=[undef]
 | .agg _,_=>False
 | .WC _,_=>False
def aW(ρ:Nat->LV)(S:Nat->Prop)(w:World):List Slot->List Value->Prop
 | [],vs=>vs=[]
 |s::r,vs=>∃u F6,vs=u::F6/\Slot.ok ρ S w s u/\aW ρ S w r F6
def bM(ρ:Nat->LV)(S:Nat->Prop)(w:World):List Slot->List Value->Prop
 | [],h=>h=[]
 |s::r,h=>∃c d,h=c++d/\Slot.YW ρ S w s c/\bM ρ S w r d
def Slot.ok(ρ:Nat->LV)(S:Nat->Prop)(w:World):Slot->Value->Prop
 | .v e x,u=>e.val x S w u
 | .ref i,u=>Ze (ρ i).v/\u=(ρ i).v
 | .ptr i off,u=>(∃b,(ρ i).v= .pointer (some ⟨b,0,none⟩))/\u=Cv (ρ i).v off
 | .dw i off k n,u=>(∃b,(ρ i).v= .pointer (some ⟨b,0,none⟩))/\u=Cv (ρ i).v (off+k*n)
 | .el i k n off,u=>(∃b o l c,(ρ i).v= .slice (some ⟨b,o,none⟩) l c)/\u=Lq (ρ i).v (k*n+off)
 | .r8 i off h n cap,u=>(∃b,(ρ i).v= .pointer (some ⟨b,0,none⟩))/\u=EX (ρ i).v (off+h) n cap
 | .ln i off n cap,u=>(∃b o l c,(ρ i).v= .slice (some ⟨b,o,none⟩) l c)/\u=EY (ρ i).v off n cap
 | .sub i off n,u=>(∃a l c,(ρ i).v= .slice a l c)/\∃c o,n<=c/\(o=off\/n=0)/\u=Tj (ρ i).v o n c
 | .XR e x,u=>∃b off ds,u= .pointer (some ⟨b,off,none⟩)/\b<w.heap.size/\¬S b/\VQ w b off ds/\e.ok x S w ds
 | .ZJ g cap,u=>∃vs,u= .func (.func g) #[] vs.toArray/\aW ρ S w cap vs
 | .top,u=>u=undef
 | .agg l,u=>∃cs,u= .agg cs.toArray/\bM ρ S w l cs
 | .WC l,u=>∃vs,u= .tuple vs.toArray/\aW ρ S w l vs
end
def mM(ρ ρ':Nat->LV)(l:List Nat):Prop:=∀i∈l,(ρ' i).v=(ρ i).v
mutual
def Slot.YF:Slot->List Nat
 | .ref i=>[i]
 | .ptr i _=>[i]
 | .dw i _ _ _=>[i]
 | .el i _ _ _=>[i]
 | .r8 i _ _ _ _=>[i]
 | .ln i _ _ _=>[i]
 | .sub i _ _=>[i]
 | .ZJ _ l=>dU l
 | .agg l=>dU l
 | .WC l=>dU l
 |_=>[]
def dU:List Slot->List Nat
 | []=>[]
 |s::r=>s.YF++dU r
end
theorem VQ.mono{S S':Nat->Prop}{w w':World}{b off:Nat}{cs:List Value}(h:VQ w b off cs)(hb:b<w.heap.size)(hs:¬S b)(k:Ext S S' w w'):VQ w' b off cs:=by
 obtain⟨c,T,u,z,A⟩:=h;exact⟨c,T,u,by rw[(k.F4 b hb hs).1];exact z,A⟩
section
variable {ρ ρ':Nat->LV}{S S':Nat->Prop}{w w':World}
mutual
theorem vK:∀(s:Slot) (cs:List Value),s.YW ρ S w cs->Ext S S' w w'->mM ρ ρ' s.YF->s.YW ρ' S' w' cs
 | .v e x,cs,h,k,_=>e.mono h k
 | .ref i,cs,h,_,a=>by simp only[Slot.YW] at h ⊢;rw[a i (by simp[Slot.YF])];exact h
 | .ptr i u,cs,h,_,a=>by simp only[Slot.YW] at h ⊢;rw[a i (by simp[Slot.YF])];exact h
 | .dw i u j n,cs,h,_,a=>by simp only[Slot.YW] at h ⊢;rw[a i (by simp[Slot.YF])];exact h
 | .el i k n u,cs,h,_,a=>by simp only[Slot.YW] at h ⊢;rw[a i (by simp[Slot.YF])];exact h
 | .r8 i u F n cap,cs,h,_,a=>by simp only[Slot.YW] at h ⊢;rw[a i (by simp[Slot.YF])];exact h
 | .ln i u n cap,cs,h,_,a=>by simp only[Slot.YW] at h ⊢;rw[a i (by simp[Slot.YF])];exact h
 | .sub i u n,cs,h,_,a=>by simp only[Slot.YW] at h ⊢;rw[a i (by simp[Slot.YF])];exact h
 | .XR e x,cs,h,k,_=>by
  simp only[Slot.YW] at h ⊢;obtain⟨b,u,C,A,z,B,D,E⟩:=h;exact⟨b,u,C,A,O3 z k.size,(k.F4 b z B).2,D.mono z B k,e.mono E k⟩
 | .ZJ g cap,cs,h,k,a=>by
  simp only[Slot.YW] at h ⊢;obtain⟨vs,A,z⟩:=h;exact⟨vs,A,nB cap vs z k (by simpa[Slot.YF] using a)⟩
 | .top,cs,h,_,_=>by simpa only[Slot.YW] using h
 | .agg l,cs,h,_,_=>by simp[Slot.YW] at h
 | .WC l,cs,h,_,_=>by simp[Slot.YW] at h
theorem nB:∀(l:List Slot) (vs:List Value),aW ρ S w l vs->Ext S S' w w'->mM ρ ρ' (dU l)->aW ρ' S' w' l vs
 | [],vs,h,_,_=>by simpa only[aW] using h
 |s::r,vs,h,k,a=>by
  simp only[aW] at h ⊢;obtain⟨u,A,B,C,D⟩:=h;exact⟨u,A,B,Slot.VE s u C k (fun i z=>a i (by simp[dU,z])),nB r A D k (fun i z=>a i (by simp[dU,z]))⟩
theorem fO:∀(l:List Slot) (vs:List Value),bM ρ S w l vs->Ext S S' w w'->mM ρ ρ' (dU l)->bM ρ' S' w' l vs
 | [],vs,h,_,_=>by simpa only[bM] using h
 |s::r,vs,h,k,a=>by
  simp only[bM] at h ⊢;obtain⟨u,A,B,C,D⟩:=h;exact⟨u,A,B,vK s u C k (fun i z=>a i (by simp[dU,z])),fO r A D k (fun i z=>a i (by simp[dU,z]))⟩
theorem Slot.VE:∀(s:Slot) (u:Value),s.ok ρ S w u->Ext S S' w w'->mM ρ ρ' s.YF->s.ok ρ' S' w' u
 | .v e x,z,h,k,_=>by simp only[Slot.ok] at h ⊢;exact gO h k
 | .ref i,z,h,_,a=>by simp only[Slot.ok] at h ⊢;rw[a i (by simp[Slot.YF])];exact h
 | .ptr i B,z,h,_,a=>by simp only[Slot.ok] at h ⊢;rw[a i (by simp[Slot.YF])];exact h
 | .dw i B j n,z,h,_,a=>by simp only[Slot.ok] at h ⊢;rw[a i (by simp[Slot.YF])];exact h
 | .el i k n B,z,h,_,a=>by simp only[Slot.ok] at h ⊢;rw[a i (by simp[Slot.YF])];exact h
 | .r8 i B H n cap,z,h,_,a=>by simp only[Slot.ok] at h ⊢;rw[a i (by simp[Slot.YF])];exact h
 | .ln i B n cap,z,h,_,a=>by simp only[Slot.ok] at h ⊢;rw[a i (by simp[Slot.YF])];exact h
 | .sub i B n,z,h,_,a=>by simp only[Slot.ok] at h ⊢;rw[a i (by simp[Slot.YF])];exact h
 | .XR e x,z,h,k,_=>by
  simp only[Slot.ok] at h ⊢;obtain⟨b,B,E,C,A,D,F,G⟩:=h;exact⟨b,B,E,C,O3 A k.size,(k.F4 b A D).2,F.mono A D k,e.mono G k⟩
 | .ZJ g cap,z,h,k,a=>by
  simp only[Slot.ok] at h ⊢;obtain⟨vs,C,A⟩:=h;exact⟨vs,C,nB cap vs A k (by simpa[Slot.YF] using a)⟩
 | .top,z,h,_,_=>by simpa only[Slot.ok] using h
 | .agg l,z,h,k,a=>by
  simp only[Slot.ok] at h ⊢;obtain⟨vs,C,A⟩:=h;exact⟨vs,C,fO l vs A k (by simpa[Slot.YF] using a)⟩
 | .WC l,z,h,k,a=>by
  simp only[Slot.ok] at h ⊢;obtain⟨vs,C,A⟩:=h;exact⟨vs,C,nB l vs A k (by simpa[Slot.YF] using a)⟩
end
end
def Wr.YU{α:Type}(e:Wr α):List α->(Nat->Prop)->World->List Value->Prop
 | [],_,_,h=>h=[]
 |x::xs,S,w,h=>∃c d,h=c++d/\e.ok x S w c/\Wr.YU e xs S w d
section
variable {α:Type}{e:Wr α}{S S':Nat->Prop}{w w':World}
theorem Wr.VN:∀{xs:List α} {cs},e.YU xs S w cs->Ext S S' w w'->e.YU xs S' w' cs
 | [],_,h,_=>h
 |_::_,_,⟨c,d,u,z,A⟩,k=>⟨c,d,u,e.mono z k,Wr.VN A k⟩
theorem cQ:∀{xs:List α} {cs},e.YU xs S w cs->cs.length=xs.length*e.n
 | [],_,h=>by simp only[Wr.YU] at h;simp[h]
 |x::xs,_,⟨c,d,u,z,A⟩=>by rw[u,sM,e.len z,cQ A,D2,I6,po,aDf]
theorem rI:∀{xs:List α} {cs},e.YU xs S w cs->∀c∈cs,c.oneCell'=true
 | [],_,h=>by simp only[Wr.YU] at h;simp[h]
 |x::xs,_,⟨c,d,z,A,B⟩=>by
  intro y u;rw[z] at u;rcases K9.1 u with u | u
  ·exact e.cell A y u
  ·exact rI B y u
theorem gI:∀{xs ys:List α} {cs ds},e.YU xs S w cs->e.YU ys S w ds->e.YU (xs++ys) S w (cs++ds)
 | [],_,_,_,h,k=>by simp only[Wr.YU] at h;simpa[h] using k
 |x::xs,ys,_,ds,⟨c,d,u,z,A⟩,k=>⟨c,d++ds,by rw[u,A8],z,gI A k⟩
theorem zC:∀{xs ys:List α} {cs},e.YU (xs++ys) S w cs->∃c d,cs=c++d/\e.YU xs S w c/\e.YU ys S w d
 | [],_,cs,h=>⟨[],cs,rfl,rfl,h⟩
 |x::xs,ys,_,⟨c,d,D,E,F⟩=>by
  obtain⟨u,z,A,B,C⟩:=zC (xs:=xs) F;exact⟨c++u,z,by rw[D,A,A8],⟨c,u,rfl,E,B⟩,C⟩
theorem qT{xs:List α}{cs}(h:e.YU xs S w cs){i:Nat}{x:α}(hx:xs[i]? =some x):
  ∃a c b,cs=a++(c++b)/\a.length=i*e.n/\e.ok x S w c/\(∀y c',e.ok y S w c'->e.YU (xs.set i y) S w (a++(c'++b))):=by
 have u:i<xs.length:=by
  rcases K3 i xs.length with h | h
  ·exact h
  ·simp[X3 h] at hx
 have B:xs[i]=x:=by simpa[D3 u] using hx
 have C:xs=xs.take i++(x::xs.drop (i+1)):=by
  rw[<-B,List.getElem_cons_drop,X2]
 have z:=h;rw[C] at z;obtain⟨a,d,E,A,c,b,F,G,H⟩:=zC z;refine⟨a,c,b,by rw[E,F],?_,G,fun y c' D=>?_⟩
 ·rw[cQ A,C0];rw[px (Nat.le_of_lt u)]
 ·have:xs.set i y=xs.take i++(y::xs.drop (i+1)):=by
   rw[aDv,WJ u]
  rw[this];exact gI A ⟨c',b,rfl,D,H⟩
end
structure DE (α:Type) where
 ok:α->(Nat->Prop)->World->LV->List Value->Prop
 mono:∀{x:α} {S S':Nat->Prop} {w w':World} {u:LV} {l:List Value},ok x S w u l->Ext S S' w w'->(∀b,qS u b->w'.heap[b]? =w.heap[b]?)->ok x S' w' u l
inductive VH:Type 1
 |box (T:TypeId) (l:List Slot) (pb:Option Nat:=none)
 |arr {α:Type} (T:TypeId) (e:Wr α) (xs:List α)
 |mp {α β:Type} (e:Wr α) (f:Wr β) (m:List (α×β))
 |dp {α:Type} (D:DE α) (x:α) (ls:List Nat)
def Wv{α β:Type}(e:Wr α)(f:Wr β)(S:Nat->Prop)(w:World):List (α×β)->List MapEntry->Prop
 | [],[]=>True
 | (k,v)::m,x::xs=>e.val k S w x.key/\f.val v S w x.val/\Wv e f S w m xs
 |_,_=>False
theorem zL{α β:Type}{e:Wr α}{f:Wr β}{S S':Nat->Prop}{w w':World}(k:Ext S S' w w'):∀{m:List (α×β)} {xs:List MapEntry},Wv e f S w m xs->Wv e f S' w' m xs
 | [],[],_=>trivial
 | (_,_)::_,_::_,⟨u,z,A⟩=>⟨gO u k,gO z k,zL k A⟩
 | [],_::_,h=>h
 |_::_,[],h=>h
def VH.ok(ρ:Nat->LV)(S:Nat->Prop)(w:World)(u:LV):VH->Prop
 | .box T l h=>(∃b cs,u.v= .pointer (some ⟨b,0,none⟩)/\w.heap[b]? =some (.cells cs.toArray T (0,0))/\bM ρ S w l cs)/\∀c,h=some c->u.v= .pointer (some ⟨c,0,none⟩)
 | .arr T e xs=>(xs=[]/\u.v= .slice none 0 0)\/∃b cap pre cs post,u.v= .slice (some ⟨b,pre.length,none⟩) xs.length cap/\
   w.heap[b]? =some (.cells (pre++(cs++post)).toArray T (0,0))/\e.YU xs S w cs/\xs.length<=cap/\cap*e.n<=cs.length+post.length/\xs.length<=140737488355328
 | .mp e f m=>∃b es ck,u.v= .map (some b)/\w.heap[b]? =some (.map es ck)/\Wv e f S w m es.toList
 | .dp D x z=>D.ok x S w u (z.map fun l=>(ρ l).v)
def VH.YF:VH->List Nat
 | .box _ l _=>dU l
 | .arr _ _ _=>[]
 | .mp _ _ _=>[]
 | .dp _ _ h=>h
theorem VH.VE{ρ ρ':Nat->LV}{S S':Nat->Prop}{w w':World}{u:LV}{en:VH}(h:en.ok ρ S w u)(k:Ext S S' w w')(a:mM ρ ρ' en.YF)
  (hb:∀b,qS u b->w'.heap[b]? =w.heap[b]?):en.ok ρ' S' w' u:=by
 cases en with
 |box T l O=>
  obtain⟨⟨b,C,z,A,B⟩,E⟩:=h;exact⟨⟨b,C,z,by rw[hb b (.inl (by simp[z,YN]))];exact A,fO l C B k a⟩,E⟩
 |arr T e xs=>
  rcases h with h |⟨b,K,L,C,M,z,A,B,E,N⟩
  ·exact .inl h
  ·exact .inr ⟨b,K,L,C,M,z,by rw[hb b (.inl (by simp[z,YN]))];exact A,Wr.VN B k,E,N⟩
 |mp e f m=>
  obtain⟨b,H,I,z,A,B⟩:=h;exact⟨b,H,I,z,by rw[hb b (.inl (by simp[z,YN]))];exact A,zL k B⟩
 |dp D x F=>
  have:=D.mono h k hb;simp only[VH.ok];have e:(F.map fun l=>(ρ' l).v)=F.map fun l=>(ρ l).v:=List.map_congr_left fun l G=>a l G;rw[e];exact this
def lk:List (Nat×Slot)->Nat->Option Slot
 | [],_=>none
 | (i,s)::r,t=>bif Nat.beq i t then some s else lk r t
def aX:List (Nat×VH)->Nat->Option VH
 | [],_=>none
 | (i,s)::r,t=>bif Nat.beq i t then some s else aX r t
structure AS:Type 1 where
 g:List (Nat×Slot)
 d:List (Nat×VH)
structure WV where
 P:Program
 N:Nat
 S0:Nat->Prop
 w0:World
 R:Nat->Prop
 rd:Option Nat
 df:List Deferred
def mN(ρ:Nat->LV)(d:List (Nat×VH))(k:Nat):Prop:=∃i en,aX d i=some en/\qS (ρ i) k
def Un(S:Nat->Prop)(ρ:Nat->LV)(d:List (Nat×VH))(k:Nat):Prop:=S k\/mN ρ d k
structure Core (F:WV) (d:List (Nat×VH)) (ρ:Nat->LV) (w:World):Prop where
 low:∀k,F.S0 k->k<F.w0.heap.size
 size:F.w0.heap.size<=w.heap.size
 frame:∀k,k<F.w0.heap.size->¬F.R k->w.heap[k]? =F.w0.heap[k]?
 os:w.os=F.w0.os
 tape:w.tape=F.w0.tape
 output:w.output=F.w0.output
 own:∀i en,aX d i=some en->en.ok ρ (Un F.S0 ρ d) w (ρ i)
 fresh:∀i en b,aX d i=some en->qS (ρ i) b->(F.w0.heap.size<=b\/F.R b)/\b<w.heap.size
 inj:∀i j en en' b,aX d i=some en->aX d j=some en'->qS (ρ i) b->qS (ρ j) b->i=j
 apart:∀i en b,aX d i=some en->qS (ρ i) b->¬F.S0 b
structure St (F:WV) (σ:AS) (a:Act) (w:World):Prop where
 core:∃ρ,Core F σ.d ρ w/\∀t s,lk σ.g t=some s->s.ok ρ (Un F.S0 ρ σ.d) w (a.tmps.getD t undef)
 size:a.tmps.size=F.N
 defers:a.defers=F.df
end Go.Sw
namespace Go.Sw
open Go Go.RowKit
def Cw(k:IntKind)(n:Int):Prop:=k.min<=n/\n<=k.max
instance (k:IntKind) (n:Int):Decidable (Cw k n):=inferInstanceAs (Decidable (_/\_))
def Wr.int(k:IntKind):Wr Int where
 n:=1
 agg:=false
 ok x _ _ cs:=cs=[.int k x]/\Cw k x
 len h:=by rw[h.1];rfl
 one _:=rfl
 cell h c hc:=by rw[h.1] at hc;simp at hc;subst hc;rfl
 mono h _:=h
def Wr.bool:Wr Bool where
 n:=1
 agg:=false
 ok x _ _ cs:=cs=[.bool x]
 len h:=by rw[h];rfl
 one _:=rfl
 cell h c hc:=by rw[h] at hc;simp at hc;subst hc;rfl
 mono h _:=h
def Wr.str:Wr ByteArray where
 n:=1
 agg:=false
 ok x _ _ cs:=cs=[.string x]/\x.size<=9223372036854775807
 len h:=by rw[h.1];rfl
 one _:=rfl
 cell h c hc:=by rw[h.1] at hc;simp at hc;subst hc;rfl
 mono h _:=h
theorem vL{k:IntKind}{x:Int}{S w u}:(Wr.int k).val x S w u↔u= .int k x/\Cw k x:=by
 constructor
 ·rintro⟨z,⟨rfl,h⟩,rfl⟩;exact⟨rfl,h⟩
 ·rintro⟨rfl,h⟩;exact⟨_,⟨rfl,h⟩,rfl⟩
theorem zM{x:Bool}{S w u}:Wr.bool.val x S w u↔u= .bool x:=by
 constructor
 ·rintro⟨h,rfl,rfl⟩;rfl
 ·rintro rfl;exact⟨_,rfl,rfl⟩
theorem KP{x:ByteArray}{S w u}:Wr.str.val x S w u↔u= .string x/\x.size<=9223372036854775807:=by
 constructor
 ·rintro⟨z,⟨rfl,h⟩,rfl⟩;exact⟨rfl,h⟩
 ·rintro⟨rfl,h⟩;exact⟨_,⟨rfl,h⟩,rfl⟩
def VJ(P:Program)(o:Oper)(a:Act)(w:World)(K:Value->World->Prop):Prop:=
 (∃v w',(execOp a.eval o).run P w= .ok (.value v) w'/\K v w')\/(∃w',(execOp a.eval o).run P w= .ok .skip w'/\K undef w')\/
 (∃f args w',(execOp a.eval o).run P w= .ok (.enter f args) w'/\Calls P f args w' fun e h=>∃v,e= .returned v/\K v h)\/
 (∃l f tmps assign body w',(execOp a.eval o).run P w= .ok (.round l f tmps assign body) w'/\RoundIn Fence.wide 0 P l f tmps assign body w' fun e h=>∃v,e= .returned v/\K v h)
theorem Aq{P:Program}{o:Oper}{a:Act}{w w':World}{x:Next}(h:(execOp a.eval o).run P w= .ok x w')(hx:∀d,x≠.defer d)(l:Option Nat):o.semAt l a.eval=execOp a.eval o:=by
 refine Oper.semAt_eq _ _ _ fun c u=>?_;unfold execOp at h;rw[u] at h;simp only[Sem.run_bind] at h;cases hr:(resolve a.eval c o.type).run P w with
 |ok d z=>rw[hr] at h;simp at h;exact hx d h.1.symm
 |halt x z=>rw[hr] at h;simp at h
abbrev WV.fe(F:WV):Fence:={ Fence.wide with round:=F.rd }
theorem VJ.wpIn{P:Program}{o:Oper}{a:Act}{w:World}{K:Value->World->Prop}(h:VJ P o a w K){l:Option Nat}{next:Act->World->Prop}{Q:Exit->Act->World->Prop}(hn:∀v w',K v w'->next (a.put o.dst v) w'):
  o.wpIn { Fence.wide with round:=l } 0 P a w next Q:=by
 refine⟨fun _ _=>trivial,?_⟩;rcases h with⟨v,w',h,k⟩|⟨w',h,k⟩|⟨f,D,w',h,k⟩|⟨z,f,A,B,body,w',h,k⟩
 ·rw[Aq h (fun _ h=>by cases h),h];exact hn v w' k
 ·rw[Aq h (fun _ h=>by cases h),h];exact hn undef w' k
 ·rw[Aq h (fun _ h=>by cases h),h];refine⟨fun h=>(by cases h),?_⟩;refine CallsIn.mono (callsIn_wide.2 k) ?_;rintro e C ⟨v,rfl,u⟩;exact hn _ _ u
 ·rw[Aq h (fun _ h=>by cases h),h];refine⟨fun h=>(by cases h),?_⟩;refine RoundIn.mono (show RoundIn { Fence.wide with round:=l } (0 - 1) P z f A B body w' _ from k) ?_;rintro e C ⟨v,rfl,u⟩;exact hn _ _ u
theorem VJ.value{P:Program}{o:Oper}{a:Act}{w w':World}{v:Value}{K:Value->World->Prop}(h:(execOp a.eval o).run P w= .ok (.value v) w')(k:K v w'):VJ P o a w K:= .inl ⟨v,w',h,k⟩
theorem VJ.skip{P:Program}{o:Oper}{a:Act}{w w':World}{K:Value->World->Prop}(h:(execOp a.eval o).run P w= .ok .skip w')(k:K undef w'):VJ P o a w K:= .inr (.inl ⟨w',h,k⟩)
theorem VJ.enter{P:Program}{o:Oper}{a:Act}{w w':World}{f:FuncId}{args:Array Value}{K:Value->World->Prop}(h:(execOp a.eval o).run P w= .ok (.enter f args) w')
  (k:Calls P f args w' fun e ow=>∃v,e= .returned v/\K v ow):VJ P o a w K:= .inr (.inr (.inl ⟨f,args,w',h,k⟩))
theorem VJ.mono{P:Program}{o:Oper}{a:Act}{w:World}{K K':Value->World->Prop}(h:VJ P o a w K)(k:∀v w',K v w'->K' v w'):VJ P o a w K':=by
 rcases h with⟨v,w',h,u⟩|⟨w',h,u⟩|⟨f,C,w',h,u⟩|⟨D,f,E,F,body,w',h,u⟩
 ·exact .inl ⟨v,w',h,k _ _ u⟩
 ·exact .inr (.inl ⟨w',h,k _ _ u⟩)
 ·exact .inr (.inr (.inl ⟨f,C,w',h,u.mono fun e B ⟨v,z,A⟩=>⟨v,z,k _ _ A⟩⟩))
 ·exact .inr (.inr (.inr ⟨D,f,E,F,body,w',h,u.mono fun e B ⟨v,z,A⟩=>⟨v,z,k _ _ A⟩⟩))
def EZ:Value->Option Slot
 | .int k n=>if Cw k n then some (.v (Wr.int k) n) else none
 | .bool b=>some (.v Wr.bool b)
 | .string s=>if s.size<=9223372036854775807 then some (.v Wr.str s) else none
 |_=>none
def dD(g:List (Nat×Slot)):Operand->Option Slot
 | .tmp t=>lk g t
 | .const u=>EZ u
 |_=>none
theorem Lr{u:Value}{s:Slot}(h:EZ u=some s)(ρ:Nat->LV)(S:Nat->Prop)(w:World):s.ok ρ S w u/\s.YF=[]:=by
 cases u<;>simp only[EZ] at h
 case int k n=>
  split at h
  ·rename_i z;cases h;exact⟨by simp only[Slot.ok];exact vL.2 ⟨rfl,z⟩,rfl⟩
  ·cases h
 case bool b=>cases h;exact⟨by simp only[Slot.ok];exact zM.2 rfl,rfl⟩
 case string b=>
  split at h
  ·rename_i z;cases h;exact⟨by simp only[Slot.ok];exact KP.2 ⟨rfl,z⟩,rfl⟩
  ·cases h
 all_goals cases h
structure lz (ρ:Nat->LV) (S:Nat->Prop) (w w':World) (new:List (Nat×VH)):Prop where
 own:∀i en,aX new i=some en->en.ok ρ S w' (ρ i)
 fresh:∀i en b,aX new i=some en->qS (ρ i) b->w.heap.size<=b/\b<w'.heap.size
 inj:∀i j en en' b,aX new i=some en->aX new j=some en'->qS (ρ i) b->qS (ρ j) b->i=j
def XJ(ρ:Nat->LV)(S:Nat->Prop)(w:World)(s:Slot)(new:List (Nat×VH))(v:Value)(w':World):Prop:=
 ∃ρ',(∀i,aX new i=none->ρ' i=ρ i)/\Below w.heap.size w w'/\s.ok ρ' (Un S ρ' new) w' v/\lz ρ' (Un S ρ' new) w w' new
structure m7 (σ:AS) (xs:Array Operand) (ρ:Nat->LV) (S:Nat->Prop) (a:Act) (w:World):Prop where
 low:∀k,S k->k<w.heap.size
 slot:∀x∈xs,∀s,dD σ.g x=some s->s.ok ρ S w (a.eval x)
 y9:∀x∈xs,∀s,dD σ.g x=some s->∀i∈s.YF,∀en,aX σ.d i=some en->en.ok ρ S w (ρ i)/\∀b,qS (ρ i) b->S b/\b<w.heap.size
def JO(F:WV)(o:Oper)(σ:AS)(s:Slot)(new:List (Nat×VH)):Prop:=
 ∀ρ S a w,m7 σ o.op.operands ρ S a w->VJ F.P o a w (XJ ρ S w s new)
def AS.put(σ:AS)(dst:Option Tmp)(s:Slot)(new:List (Nat×VH)):AS:=
 ⟨match dst with | some d=>(d,s)::σ.g | none=>σ.g,new++σ.d⟩
def AS.free(σ:AS)(new:List (Nat×VH)):Bool:=
 new.all fun x=>(σ.g.all fun y=> !y.2.YF.contains x.1) && σ.d.all fun y=> !Nat.beq y.1 x.1 && !y.2.YF.contains x.1
def gN(dst:Option Tmp)(n:Nat):Bool:=match dst with | some d=>Nat.blt d n | none=>true
theorem gJ(l r:List (Nat×VH))(i:Nat):aX (l++r) i=(aX l i).or (aX r i):=by
 induction l with
 |nil=>simp[aX]
 |cons x l h=>
  obtain⟨j,u⟩:=x;simp only[ek,aX];cases Nat.beq j i<;>simp[h]
theorem mO{l:List (Nat×VH)}{i:Nat}{en:VH}(h:aX l i=some en):(i,en)∈l:=by
 induction l with
 |nil=>simp[aX] at h
 |cons x l u=>
  obtain⟨j,z⟩:=x;simp only[aX] at h;cases hb:Nat.beq j i with
  |true=>rw[hb] at h;simp at h;subst h;have:=s8 hb;subst this;exact Y9
  |false=>rw[hb] at h;exact Y8 _ (u h)
theorem Ls{l:List (Nat×Slot)}{i:Nat}{s:Slot}(h:lk l i=some s):(i,s)∈l:=by
 induction l with
 |nil=>simp[lk] at h
 |cons x l u=>
  obtain⟨j,z⟩:=x;simp only[lk] at h;cases hb:Nat.beq j i with
  |true=>rw[hb] at h;simp at h;subst h;have:=s8 hb;subst this;exact Y9
  |false=>rw[hb] at h;exact Y8 _ (u h)
theorem kV{σ:AS}{new:List (Nat×VH)}(h:σ.free new=true){i:Nat}{en:VH}(hi:aX new i=some en):
  (∀t s,lk σ.g t=some s->i∉s.YF)/\aX σ.d i=none/\∀j e,aX σ.d j=some e->i∉e.YF:=by
 have u:=j4.1 h _ (mO hi);simp only[D1,j4] at u;obtain⟨u,A⟩:=u;refine⟨fun t s B z=>?_,?_,fun j e C z=>?_⟩
 ·have:=u _ (Ls B);simp at this;exact this z
 ·cases hd:aX σ.d i with
  |none=>rfl
  |some e=>
   have:=(A _ (mO hd)).1;simp at this
 ·have:=(A _ (mO C)).2;simp at this;exact this z
theorem rJ{w w':World}(h:Below w.heap.size w w'){S S':Nat->Prop}(hs:∀k,k<w.heap.size->S' k->S k):Ext S S' w w':=
 ⟨h.size,fun k u z=>⟨h.block k u,fun A=>z (hs k u A)⟩⟩
theorem Core.put{F:WV}{d new:List (Nat×VH)}{ρ ρ':Nat->LV}{w w':World}{σ:AS}(hσ:σ.d=d)(hc:Core F d ρ w)(hf:σ.free new=true)(hρ:∀i,aX new i=none->ρ' i=ρ i)
  (hb:Below w.heap.size w w') (hn:lz ρ' (Un (Un F.S0 ρ d) ρ' new) w w' new):
  Core F (new++d) ρ' w'/\(∀k,Un F.S0 ρ' (new++d) k↔Un (Un F.S0 ρ d) ρ' new k)/\Ext (Un F.S0 ρ d) (Un F.S0 ρ' (new++d)) w w':=by
 subst hσ
 have D:∀i u,aX σ.d i=some u->ρ' i=ρ i:=fun i u h=>hρ i (by
  cases hx:aX new i with
  |none=>rfl
  |some e=>rw[(kV hf hx).2.1] at h;cases h)
 have K:∀k,Un F.S0 ρ' (new++σ.d) k↔Un (Un F.S0 ρ σ.d) ρ' new k:=by
  intro k;constructor
  ·rintro (h |⟨i,u,z,A⟩)
   ·exact .inl (.inl h)
   ·rw[gJ] at z;cases hx:aX new i with
    |some e=>exact .inr ⟨i,e,hx,A⟩
    |none=>rw[hx] at z;simp at z;exact .inl (.inr ⟨i,u,z,by rw[<-D i u z];exact A⟩)
  ·rintro ((h |⟨i,u,z,A⟩) |⟨i,u,z,A⟩)
   ·exact .inl h
   ·refine .inr ⟨i,u,?_,by rw[D i u z];exact A⟩;rw[gJ];cases hx:aX new i with
    |some e=>rw[(kV hf hx).2.1] at z;cases z
    |none=>simpa using z
   ·exact .inr ⟨i,u,by rw[gJ,z];rfl,A⟩
 have N:Ext (Un F.S0 ρ σ.d) (Un F.S0 ρ' (new++σ.d)) w w':=by
  refine rJ hb fun k L h=>?_;rcases (K k).1 h with h |⟨i,u,z,A⟩
  ·exact h
  ·have:=(hn.fresh i u k z A).1;omega
 have P:Ext (Un (Un F.S0 ρ σ.d) ρ' new) (Un F.S0 ρ' (new++σ.d)) w' w':=⟨YO _,fun k _ h=>⟨rfl,fun hc=>h ((K k).1 hc)⟩⟩;refine⟨⟨hc.low,db hc.size hb.size,fun k L Q=>(hb.block k (O3 L hc.size)).trans (hc.frame k L Q),hb.os.trans hc.os,hb.tape.trans hc.tape,hb.output.trans hc.output,?_,?_,?_,?_⟩,K,N⟩
 ·intro i u h;rw[gJ] at h;cases hx:aX new i with
  |some e=>
   rw[hx] at h;simp at h;subst h;exact VH.VE (hn.own i e hx) P (fun _ _=>rfl) (fun _ _=>rfl)
  |none=>
   rw[hx] at h;simp at h;rw[D i u h];refine VH.VE (hc.own i u h) N (fun j B=>congrArg LV.v (hρ j ?_)) (fun b C=>hb.block b (hc.fresh i u b h C).2);cases hy:aX new j with
   |none=>rfl
   |some e=>exact absurd B ((kV hf hy).2.2 i u h)
 ·intro i u b h C;rw[gJ] at h;cases hx:aX new i with
  |some e=>
   obtain⟨z,A⟩:=hn.fresh i e b hx C;exact⟨.inl (db hc.size z),A⟩
  |none=>
   rw[hx] at h;simp at h;rw[D i u h] at C;obtain⟨z,A⟩:=hc.fresh i u b h C;exact⟨z,O3 A hb.size⟩
 ·intro i j u I b E B H G;rw[gJ] at E B;cases hx:aX new i with
  |some e=>
   cases hy:aX new j with
   |some M=>exact hn.inj i j e M b hx hy H G
   |none=>
    rw[hy] at B;simp at B;rw[D j I B] at G;have z:=(hn.fresh i e b hx H).1;have A:=(hc.fresh j I b B G).2;omega
  |none=>
   rw[hx] at E;simp at E;rw[D i u E] at H;cases hy:aX new j with
   |some M=>
    have z:=(hn.fresh j M b hy G).1;have A:=(hc.fresh i u b E H).2;omega
   |none=>
    rw[hy] at B;simp at B;rw[D j I B] at G;exact hc.inj i j u I b E B H G
 ·intro i u b h C O;rw[gJ] at h;cases hx:aX new i with
  |some e=>
   have z:=(hn.fresh i e b hx C).1;have A:=hc.low b O;have R:=hc.size;omega
  |none=>
   rw[hx] at h;simp at h;rw[D i u h] at C;exact hc.apart i u b h C O
theorem kW(a:Act)(dst:Option Tmp)(v:Value):(a.put dst v).tmps.size=a.tmps.size:=by
 cases dst<;>simp[Act.put]
theorem kX(a:Act)(d:Tmp)(v:Value)(t:Tmp)(h:d<a.tmps.size):(a.put (some d) v).tmps.getD t undef=if d=t then v else a.tmps.getD t undef:=by
 simp only[Act.put,oe,aDi];split
 ·simp_all
 ·rfl
theorem St.put{F:WV}{σ:AS}{dst:Option Tmp}{s:Slot}{new:List (Nat×VH)}{ρ:Nat->LV}{a:Act}{w w':World}{v:Value}
  (hc:Core F σ.d ρ w) (hs:∀t s,lk σ.g t=some s->s.ok ρ (Un F.S0 ρ σ.d) w (a.tmps.getD t undef)) (hz:a.tmps.size=F.N) (hd:a.defers=F.df)
  (hf:σ.free new=true) (ZP:gN dst F.N=true) (hr:XJ ρ (Un F.S0 ρ σ.d) w s new v w'):St F (σ.put dst s new) (a.put dst v) w':=by
 obtain⟨ρ',B,E,G,H⟩:=hr;obtain⟨I,K,L⟩:=hc.put rfl hf B E H;refine⟨⟨ρ',I,?_⟩,by rw[kW,hz],by cases dst<;>exact hd⟩;have z:∀t s,lk σ.g t=some s->s.ok ρ' (Un F.S0 ρ' (new++σ.d)) w' (a.tmps.getD t undef):=fun t s u=>
  Slot.VE s _ (hs t s u) L (fun j D=>congrArg LV.v (B j (by
   cases hy:aX new j with
   |none=>rfl
   |some e=>exact absurd D ((kV hf hy).1 t s u))))
 intro t A u;cases dst with
 |none=>exact z t A u
 |some d=>
  simp only[AS.put,lk] at u;have C:d<a.tmps.size:=by rw[hz];exact w7 ZP
  rw[kX a d v t C];cases hb:Nat.beq d t with
  |true=>
   have:=s8 hb;rw[hb] at u;simp at u;subst u;rw[WJ this];exact Slot.VE s v G ⟨YO _,fun k _ h=>⟨rfl,fun hc=>h ((K k).1 hc)⟩⟩ (fun _ _=>rfl)
  |false=>
   have:d≠t:=fun e=>by subst e;simp at hb
   rw[hb] at u;rw[WA this];exact z t A u
theorem Rd(a:Act)(t:Tmp):a.eval (.tmp t)=a.tmps.getD t undef:=rfl
theorem cI{F:WV}{σ:AS}{ρ:Nat->LV}{a:Act}{w:World}(hc:Core F σ.d ρ w)
  (hs:∀t s,lk σ.g t=some s->s.ok ρ (Un F.S0 ρ σ.d) w (a.tmps.getD t undef)) (xs:Array Operand):m7 σ xs ρ (Un F.S0 ρ σ.d) a w:=by
 refine⟨fun k A=>?_,fun x _ s h=>?_,fun x _ s h i G z B=>⟨hc.own i z B,fun b C=>⟨.inr ⟨i,z,B,C⟩,(hc.fresh i z b B C).2⟩⟩⟩
 ·rcases A with A |⟨i,z,D,E⟩
  ·exact O3 (hc.low k A) hc.size
  ·exact(hc.fresh i z k D E).2
 cases x with
 |tmp t=>exact hs t s h
 |const u=>exact(Lr h ρ _ w).1
 |global g=>cases h
 |func f=>cases h
def GK(ops:Array Oper)(g:List (Nat×Slot))(o:Oper)(b:Bool):Prop:=
 match o.guard with
 |none=>b=true
 |some (j,want)=>(∃t x,(ops[j]?).bind (·.dst)=some t/\lk g t=some (.v Wr.bool x)/\(x==want)=b)\/(b=false/\∃t,(ops[j]?).bind (·.dst)=some t/\lk g t=some .top)
theorem GK.none{ops:Array Oper}{g:List (Nat×Slot)}{o:Oper}(h:o.guard= .none):GK ops g o true:=by unfold GK;rw[h]
theorem GK.some{ops:Array Oper}{g:List (Nat×Slot)}{o:Oper}{j:Nat}{want:Bool}(t:Tmp)(x:Bool)(b:Bool)(h:o.guard= .some (j,want))(ht:(ops[j]?).bind (·.dst)= .some t)
  (hx:lk g t= .some (.v Wr.bool x)) (hb:(x==want)=b):GK ops g o b:=by unfold GK;rw[h];exact .inl ⟨t,x,ht,hx,hb⟩
theorem tZ{ops:Array Oper}{g:List (Nat×Slot)}{o:Oper}{j:Nat}{want:Bool}(t:Tmp)(h:o.guard= .some (j,want))(ht:(ops[j]?).bind (·.dst)= .some t)
  (hx:lk g t= .some .top):GK ops g o false:=by unfold GK;rw[h];exact .inr ⟨rfl,t,ht,hx⟩
theorem zN{ops:Array Oper}{g:List (Nat×Slot)}{o:Oper}{b:Bool}(h:GK ops g o b){ρ S w}{a:Act}
  (hs:∀t s,(∃j want,o.guard=Option.some (j,want)/\(ops[j]?).bind (·.dst)=Option.some t)->lk g t=Option.some s->s.ok ρ S w (a.tmps.getD t undef)):
  Region.wanted o (yielded ops a.tmps)=b:=by
 unfold GK at h;unfold Region.wanted;split at h
 ·rename_i u;rw[u];exact h.symm
 ·rename_i j want u;rcases h with⟨t,x,A,B,C⟩|⟨rfl,t,A,B⟩
  ·have:=hs t _ ⟨j,want,u,A⟩ B;simp only[Slot.ok] at this;have z:=zM.1 this;rw[u];simp only[yielded,A,cM];have:a.tmps[t]? =Option.some (.bool x):=by
    rw[oe] at z;cases hq:a.tmps[t]? with
    |none=>rw[hq] at z;simp[undef] at z
    |some y=>rw[hq] at z;simpa using z
   rw[this];simp only;rw[<-C];cases x<;>cases want<;>rfl
  ·have:=hs t _ ⟨j,want,u,A⟩ B;simp only[Slot.ok] at this;rw[u];simp only[yielded,A,cM];rw[oe] at this;cases hq:a.tmps[t]? with
   |none=>rfl
   |some y=>rw[hq] at this;simp at this;subst this;rfl
def J(F:WV)(ops:Array Oper)(os:List Oper)(σ σ':AS):Prop:=
 ∀Q rest a w,St F σ a w->(∀a' w',St F σ' a' w'->wpListIn F.fe 0 F.P ops Q rest a' w')->wpListIn F.fe 0 F.P ops Q (os++rest) a w
theorem Ar{F:WV}{ops:Array Oper}{Q:Exit->Act->World->Prop}{a:Act}{w:World}{rest:List Oper}{o:Oper}{K:Value->World->Prop}
  (hw:Region.wanted o (yielded ops a.tmps)=true) (h:VJ F.P o a w K) (k:∀v w',K v w'->wpListIn F.fe 0 F.P ops Q rest (a.put o.dst v) w'):wpListIn F.fe 0 F.P ops Q (o::rest) a w:=by
 unfold wpListIn;rw[WJ hw];exact h.wpIn k
theorem Tk{F:WV}{ops:Array Oper}{Q:Exit->Act->World->Prop}{a:Act}{w:World}{rest:List Oper}{o:Oper}
  (hw:Region.wanted o (yielded ops a.tmps)=false) (k:wpListIn F.fe 0 F.P ops Q rest (a.put o.dst undef) w):wpListIn F.fe 0 F.P ops Q (o::rest) a w:=by
 unfold wpListIn;rw[WA (by rw[hw];decide)];exact⟨fun _ _=>trivial,k⟩
section
variable {F:WV}{ops:Array Oper}{os:List Oper}{o:Oper}{σ σ' eo:AS}{s:Slot}{new:List (Nat×VH)}
theorem J.nil:J F ops [] σ σ:=fun _ _ _ _ h k=>k _ _ h
theorem J.cons(g:GK ops σ.g o true)(h:JO F o σ s new)(hf:σ.free new=true)(hd:gN o.dst F.N=true)(k:J F ops os (σ.put o.dst s new) σ'):J F ops (o::os) σ σ':=by
 intro Q A a w B C;obtain⟨⟨ρ,z,u⟩,G,H⟩:=B;refine Ar (zN g (fun t x _ D=>u t _ D)) (h ρ _ a w (cI z u _)) fun v I E=>?_;exact k Q A _ _ (St.put z u G H hf hd E) C
theorem Zf{ρ:Nat->LV}{S:Nat->Prop}{w:World}:XJ ρ S w .top [] undef w:=
 ⟨ρ,fun _ _=>rfl,Below.refl _ _,by simp[Slot.ok],⟨fun _ _ h=>by simp[aX] at h,fun _ _ _ h=>by simp[aX] at h,fun _ _ _ _ _ h=>by simp[aX] at h⟩⟩
theorem J.left(g:GK ops σ.g o false)(hd:gN o.dst F.N=true)(k:J F ops os (σ.put o.dst .top []) σ'):J F ops (o::os) σ σ':=by
 intro Q u a w z A;obtain⟨⟨ρ,C,h⟩,D,E⟩:=z;refine Tk (zN g (fun t x _ B=>h t _ B)) ?_;exact k Q u _ _ (St.put C h D E rfl hd Zf) A
def JM(F:WV)(o:Oper)(σ σ':AS):Prop:=∀a w,St F σ a w->VJ F.P o a w fun v h=>St F σ' (a.put o.dst v) h
theorem Zg(g:GK ops σ.g o true)(h:JM F o σ σ')(k:J F ops os σ' eo):J F ops (o::os) σ eo:=by
 intro Q A a w u B;have z:=u;obtain⟨⟨ρ,H,E⟩,I,K⟩:=u;refine Ar (zN g (fun t x _ C=>E t _ C)) (h a w z) fun v G D=>?_;exact k Q A _ _ D B
def Sub(F:WV)(σ σ':AS):Prop:=∀a w,St F σ a w->St F σ' a w
theorem J.sub(h:Sub F σ σ')(k:J F ops os σ' eo):J F ops os σ eo:=fun Q u a w z A=>k Q u a w (h a w z) A
end
def run(Fe:Fence)(P:Program)(Q:Exit->Act->World->Prop):List Code->Act->World->Prop
 | [],a,w=>Q .normal a w
 |c::cs,a,w=>c.wpIn Fe 0 P (Exit.then (run Fe P Q cs) Q) a w
def W(F:WV)(cs:List Code)(σ:AS)(Q:Exit->Act->World->Prop):Prop:=∀a w,St F σ a w->run F.fe F.P Q cs a w
section
variable {F:WV}{cs:List Code}{σ σ':AS}{Q:Exit->Act->World->Prop}
theorem aG{x y:Code}(h:W F (x::y::cs) σ Q):W F (.seq x y::cs) σ Q:=by
 intro a w u;refine wpIn_seq (wpIn_mono (h a w u) ?_);intro e a w z;cases e<;>exact z
theorem eP{id:Nat}{ops:List Oper}(h:J F ops.toArray ops σ σ')(k:W F cs σ' Q):W F (.region id ops.toArray false::cs) σ Q:=by
 intro a w u;refine wpIn_region_lit ?_;have:=h (Exit.then (run F.fe F.P Q cs) Q) [] a w u (fun z A B=>wpListIn_nil (k z A B));simpa using this
theorem Fs{c:Tmp}{x y:Code}{b:Bool}(hb:lk σ.g c=some (.v Wr.bool b))(ht:b=true->W F (x::cs) σ Q)(hf:b=false->W F (y::cs) σ Q):W F (.cond (.tmp c) x y::cs) σ Q:=by
 intro a w u;obtain⟨ρ,B,A⟩:=u.core;have:=A c _ hb;simp only[Slot.ok] at this;have z:=zM.1 this;exact wpIn_cond_split (c:= .tmp c) (by rw[Rd];exact z) (fun h=>ht h a w u) (fun h=>hf h a w u)
theorem aF(h:W F cs σ Q):W F (.skip::cs) σ Q:=fun a w u=>wpIn_skip (h a w u)
theorem wL(h:Sub F σ σ')(k:W F cs σ' Q):W F cs σ Q:=fun a w u=>k a w (h a w u)
def XQ(F:WV)(σ:AS)(Q:Exit->Act->World->Prop)(e:Exit):Prop:=∀a w,St F σ a w->Q e a w
theorem aH(h:XQ F σ Q .ret):W F (.ret::cs) σ Q:=fun a w u=>wpIn_ret (h a w u)
theorem dC{id:Nat}(h:XQ F σ Q (.exit id)):W F (.exit id::cs) σ Q:=fun a w u=>wpIn_exit (h a w u)
theorem Zh(h:XQ F σ Q .normal):W F [] σ Q:=h
theorem bS{id:Nat}{c:Code}(h:W F [c] σ (Exit.inBlock id (Exit.then (run F.fe F.P Q cs) Q))):W F (.block id c::cs) σ Q:=by
 intro a w u;refine wpIn_block (wpIn_mono (h a w u) ?_);intro e a w z;cases e<;>exact z
theorem aZ{id:Nat}(h:W F cs σ Q):W F [] σ (Exit.inBlock id (Exit.then (run F.fe F.P Q cs) Q)):=fun a w u=>h a w u
theorem KQ{id id':Nat}{N:Act->World->Prop}(YS:Nat.beq id' id=false)(h:XQ F σ Q (.exit id')):XQ F σ (Exit.inBlock id (Exit.then N Q)) (.exit id'):=by
 intro a w z;have u:id'≠id:=fun e=>by subst e;simp at YS
 simp only[Exit.inBlock,WA u];exact h a w z
theorem eR{id:Nat}{N:Act->World->Prop}(h:XQ F σ Q .ret):XQ F σ (Exit.inBlock id (Exit.then N Q)) .ret:=h
end
inductive Step (α β:Type) where
 |next (x:α)
 |done (b:β)
def loop{α β:Type}(step:α->Option (Step α β)):Nat->α->Option β
 | 0,_=>none
 |n+1,x=>match step x with
  |none=>none
  |some (.next y)=>loop step n y
  |some (.done b)=>some b
def LQ{α β:Type}(F:WV)(σs:α->AS)(b:β)(Q:Exit->Act->World->Prop):Step α β->Exit->Act->World->Prop
 | .next y,.normal,a,w=>St F (σs y) a w
 | .next _,_,_,_=>False
 | .done _,.normal,_,_=>False
 | .done h,e,a,w=>h=b->Q e a w
section
variable {F:WV}{cs:List Code}{σ:AS}{Q:Exit->Act->World->Prop}{α β:Type}
theorem OS{c:Code}{σs:α->AS}{step:α->Option (Step α β)}{n:Nat}{x:α}{b:β}(hm:loop step n x=some b)(h0:Sub F σ (σs x))
  (h:∀y r,step y=some r->W F [c] (σs y) (LQ F σs b Q r)):W F (.loop c::cs) σ Q:=by
 intro a w E;have E:=h0 a w E;let I:Act->World->Prop:=fun a w=>∃m y,Sw.loop step m y=some b/\St F (σs y) a w
 let B:Act->World->Nat->Prop:=fun a w m=>∃y,Sw.loop step m y=some b/\St F (σs y) a w
 have G:∀a w,I a w->∃m,B a w m/\∀k,B a w k->m<=k:=by
  rintro a w ⟨m,y,u,C⟩;have:∃m,B a w m:=⟨m,y,u,C⟩;clear u C;obtain⟨m,hm⟩:=this
  induction m using Nat.strongRecOn with
  |_ m R=>
   by_cases H:∃k,k<m/\B a w k
   ·obtain⟨k,u,C⟩:=H;exact R k u C
   ·exact⟨m,hm,fun k N=>Nat.le_of_not_lt fun O=>H ⟨k,O,N⟩⟩
 classical
 let μ:Act->World->Nat:=fun a w=>if A:I a w then Classical.choose (G a w A) else 0
 have K:∀a w (A:I a w),B a w (μ a w)/\∀k,B a w k->μ a w<=k:=by
  intro a w A;have:=aD2 (G a w A);simp only[μ,dif_pos A];exact this
 refine wpIn_loop (Q:=Exit.then (run F.fe F.P Q cs) Q) I μ ⟨n,x,hm,E⟩ fun a w A=>?_;obtain⟨⟨y,u,C⟩,S⟩:=K a w A;cases hn:μ a w with
 |zero=>rw[hn] at u;simp[Sw.loop] at u
 |succ m=>
  rw[hn] at u;simp only[Sw.loop] at u;cases XY:step y with
  |none=>rw[XY] at u;cases u
  |some r=>
   have:=h y r XY a w C;refine wpIn_mono this ?_;intro e M w' D;cases r with
   |next z=>
    rw[XY] at u;cases e<;>simp only[LQ,Exit.then,run] at D ⊢;have L:I M w':=⟨m,z,u,D⟩;refine⟨L,?_⟩;have:=(K M w' L).2 m ⟨z,u,D⟩;omega
   |done T=>
    rw[XY] at u;simp at u;cases e<;>simp only[LQ,Exit.then,run] at D ⊢<;>exact D u
end
end Go.Sw
namespace Go.Sw
open Go Go.RowKit
def Wr.sl{α:Type}(e:Wr α):Wr (List α) where
 n:=1
 agg:=false
 ok xs S w cs:=∃a u,cs=[.slice a xs.length u]/\(xs.length<=u/\xs.length<=140737488355328)/\(xs=[]\/∃b z A,a=some ⟨b,z,none⟩/\b<w.heap.size/\¬S b/\VQ w b z A/\e.YU xs S w A)
 len h:=by obtain⟨a,u,h,_⟩:=h;rw[h];rfl
 one _:=rfl
 cell h c hc:=by obtain⟨a,u,h,_⟩:=h;rw[h] at hc;simp at hc;subst hc;rfl
 mono h k:=by
  obtain⟨a,u,h,E,B⟩:=h;refine⟨a,u,h,E,?_⟩;rcases B with B |⟨b,z,A,F,C,D,G,H⟩
  ·exact .inl B
  ·exact .inr ⟨b,z,A,F,O3 C k.size,(k.F4 b C D).2,G.mono C D k,Wr.VN H k⟩
def Wr.arr{α:Type}(m:Nat)(e:Wr α):Wr (List α) where
 n:=m*e.n
 agg:=true
 ok xs S w cs:=xs.length=m/\e.YU xs S w cs
 len h:=by rw[cQ h.2,h.1]
 one h:=by cases h
 cell h:=rI h.2
 mono h k:=⟨h.1,Wr.VN h.2 k⟩
def Wr.pr{α β:Type}(a:Wr α)(b:Wr β):Wr (α×β) where
 n:=a.n+b.n
 agg:=true
 ok x S w cs:=∃c d,cs=c++d/\a.ok x.1 S w c/\b.ok x.2 S w d
 len h:=by obtain⟨c,d,h,u,z⟩:=h;rw[h,sM,a.len u,b.len z]
 one h:=by cases h
 cell h y hy:=by
  obtain⟨c,d,h,u,z⟩:=h;rw[h] at hy;rcases K9.1 hy with hy | hy
  ·exact a.cell u y hy
  ·exact b.cell z y hy
 mono h k:=by obtain⟨c,d,h,u,z⟩:=h;exact⟨c,d,h,a.mono u k,b.mono z k⟩
def Wr.H0{α:Type}(a:Wr α):Wr α where
 n:=a.n
 agg:=true
 ok:=a.ok
 len:=a.len
 one h:=by cases h
 cell:=a.cell
 mono:=a.mono
def Wr.err(T:TypeId):Wr (Option Int) where
 n:=1
 agg:=false
 ok x _ _ cs:=match x with | none=>cs=[.nilIface] | some n=>cs=[.iface T (.int .i64 n)]/\Cw .i64 n
 len {x _ _ _} h:=by cases x<;>simp only at h<;>first | (rw[h];rfl) | (rw[h.1];rfl)
 one _:=rfl
 cell {x _ _ _} h c hc:=by
  cases x<;>simp only at h<;>first | (rw[h] at hc;simp at hc;subst hc;rfl) | (rw[h.1] at hc;simp at hc;subst hc;rfl)
 mono h _:=h
theorem sG{α:Type}{e:Wr α}{xs:List α}{S w u}:(Wr.sl e).val xs S w u↔∃a cap,u= .slice a xs.length cap/\(xs.length<=cap/\xs.length<=140737488355328)/\(xs=[]\/∃b off ds,a=some ⟨b,off,none⟩/\b<w.heap.size/\¬S b/\VQ w b off ds/\e.YU xs S w ds):=by
 constructor
 ·rintro⟨B,⟨a,cap,z,A⟩,rfl⟩;rw[z];exact⟨a,cap,rfl,A⟩
 ·rintro⟨a,cap,rfl,h⟩;exact⟨_,⟨a,cap,rfl,h⟩,rfl⟩
theorem At{T:TypeId}{S w u}:(Wr.err T).val none S w u↔u= .nilIface:=by
 constructor
 ·rintro⟨z,h,rfl⟩;simp only[Wr.err] at h;rw[h];rfl
 ·rintro rfl;exact⟨_,rfl,rfl⟩
theorem Au{T:TypeId}{n:Int}{S w u}:(Wr.err T).val (some n) S w u↔u= .iface T (.int .i64 n)/\Cw .i64 n:=by
 constructor
 ·rintro⟨z,h,rfl⟩;simp only[Wr.err] at h;rw[h.1];exact⟨rfl,h.2⟩
 ·rintro⟨rfl,h⟩;exact⟨_,⟨rfl,h⟩,rfl⟩
class YI {α:Type} (e:Wr α):Prop where
 flat:∀{x S S' w w' cs},e.ok x S w cs->e.ok x S' w' cs
instance (k:IntKind):YI (Wr.int k):=⟨fun h=>h⟩
instance:YI Wr.bool:=⟨fun h=>h⟩
instance:YI Wr.str:=⟨fun h=>h⟩
instance (T:TypeId):YI (Wr.err T):=⟨fun h=>h⟩
theorem YI.YU{α:Type}{e:Wr α}[YI e]{S S' w w'}:∀{xs:List α} {cs},e.YU xs S w cs->e.YU xs S' w' cs
 | [],_,h=>h
 |_::_,_,⟨c,d,u,z,A⟩=>⟨c,d,u,YI.flat z,YI.YU A⟩
instance {α:Type} (m:Nat) (e:Wr α) [YI e]:YI (Wr.arr m e):=⟨fun h=>⟨h.1,YI.YU h.2⟩⟩
instance {α β:Type} (a:Wr α) (b:Wr β) [YI a] [YI b]:YI (Wr.pr a b):=⟨fun h=>let ⟨c,d,h,h1,h2⟩:=h;⟨c,d,h,YI.flat h1,YI.flat h2⟩⟩
instance {α:Type} (a:Wr α) [i:YI a]:YI (Wr.H0 a):=⟨fun h=>i.flat (e:=a) h⟩
def VS(P:Program)(f:FuncId)(args:List Slot)(res:Slot)(new:List (Nat×VH)):Prop:=
 ∀S w vs ρ,(∀k,S k->k<w.heap.size)->aW ρ S w args vs->Calls P f vs.toArray w fun e h=>∃v,e= .returned v/\XJ ρ S w res new v h
def enum:Nat->List Slot->List (Nat×Slot)
 |_,[]=>[]
 |i,s::r=>(i,s)::enum (i+1) r
theorem Lt{ρ S w}:∀(l:List Slot) (vs:List Value) (i:Nat),aW ρ S w l vs->∀t s,lk (enum i l) t=some s->i<=t/\∃u,vs[t - i]? =some u/\s.ok ρ S w u
 | [],_,_,_,t,s,h=>by simp[enum,lk] at h
 |x::r,vs,i,z,t,s,h=>by
  simp only[aW] at z;obtain⟨u,A,rfl,B,C⟩:=z;simp only[enum,lk] at h;cases hb:Nat.beq i t with
  |true=>
   rw[hb] at h;simp at h;subst h;have:=s8 hb;subst this;exact⟨YO _,u,by simp,B⟩
  |false=>
   rw[hb] at h;obtain⟨G,D,E,F⟩:=Lt r A (i+1) C t s h;refine⟨by omega,D,?_,F⟩;have:t - i=(t - (i+1))+1:=by omega
   rw[this];simpa using E
theorem Gt{ρ S w}:∀{l:List Slot} {vs:List Value},aW ρ S w l vs->vs.length=l.length
 | [],vs,h=>by simp only[aW] at h;simp[h]
 |x::r,vs,h=>by simp only[aW] at h;obtain⟨u,A,rfl,_,z⟩:=h;simp[Gt z]
theorem qU{P:Program}{fn:Func}{tmps:Array Value}{R R':Ending->World->Prop}(hR:∀e w,R e w->R' e w):∀{ds:List Deferred} {u:FrameMode} {w:World},LeavesInM Fence.wide 0 P fn tmps R ds u w->LeavesInM Fence.wide 0 P fn tmps R' ds u w
 | [],.returning,w,h=>by obtain⟨v,z,A⟩:=h;exact⟨v,z,hR _ _ A⟩
 | [],.panicking chain,w,h=>hR _ _ h
 | [],.run,w,h=>h
 |d::ds,u,w,h=>by
  obtain⟨E,h⟩:=h;refine⟨E,?_⟩;rcases h with⟨r,D,z,A,C⟩|⟨z,F,G,f,H,A,C,I,K⟩
  ·exact .inl ⟨r,D,z,A,qU hR C⟩
  ·refine .inr ⟨z,F,G,f,H,A,C,I,?_⟩;refine CallsDIn.mono K ?_;intro e L D B;cases e
   ·exact qU hR B
   ·exact qU hR B
   ·exact hR _ _ B
theorem Lu{P:Program}{fn:Func}{R R':Ending->World->Prop}(hR:∀e w,R e w->R' e w){e:Exit}{a:Act}{w:World}(h:bodyPostM Fence.wide 0 P fn R e a w):bodyPostM Fence.wide 0 P fn R' e a w:=by
 cases e
 case goto | exit=>exact h.elim
 case normal | ret=>exact qU hR h
 case panic=>exact qU hR h
 case outgrown=>exact hR _ _ h
def Om(F:WV)(fn:Func)(res:Slot)(new:List (Nat×VH)):Exit->Act->World->Prop:=
 bodyPostM Fence.wide 0 F.P fn fun e h=>∃v,e= .returned v/\∀ρ,XJ ρ F.S0 F.w0 res new v h
def uj(P:Program)(fn:Func)(tmps:Array Value)(R:Value->World->Prop):List Deferred->World->Prop
 | [],w=>∃v,(results fn tmps).run P w= .ok v w/\R v w
 |d::ds,w=>∃r w',d.target= .collected r/\(Instr.takeDeferred r).run P w= .ok [] w'/\uj P fn tmps R ds w'
theorem uj.leaves{P:Program}{fn:Func}{tmps:Array Value}{R:Value->World->Prop}{R':Ending->World->Prop}(hR:∀v w,R v w->R' (.returned v) w):∀{ds:List Deferred} {w:World},uj P fn tmps R ds w->LeavesInM Fence.wide 0 P fn tmps R' ds .returning w
 | [],w,h=>by obtain⟨v,u,z⟩:=h;exact⟨v,u,hR _ _ z⟩
 |d::ds,w,h=>by
  obtain⟨r,A,u,z,B⟩:=h;exact⟨by simp,.inl ⟨r,A,u,z,B.leaves hR⟩⟩
structure T7 (F F':WV):Prop where
 P:F'.P=F.P
 S:∀k,F.S0 k->F'.S0 k
 size:F.w0.heap.size<=F'.w0.heap.size
 low:∀k,F.S0 k->k<F.w0.heap.size
 frame:∀k,k<F.w0.heap.size->¬F.R k->F'.w0.heap[k]? =F.w0.heap[k]?/\¬F'.R k
 os:F'.w0.os=F.w0.os
 tape:F'.w0.tape=F.w0.tape
 output:F'.w0.output=F.w0.output
 fresh:∀k,F'.R k->F.w0.heap.size<=k\/F.R k
 df:∀d∈F'.df,∃r,d.target= .collected r/\F'.S0 r/\¬F'.R r/\F.w0.heap.size<=r/\F'.w0.heap[r]? =some (.deferred (some []))
 nd:F'.df.Pairwise fun d d'=>d.target≠d'.target
theorem T7.refl{F:WV}(hl:∀k,F.S0 k->k<F.w0.heap.size)(hd:F.df=[]):T7 F F:=
 ⟨rfl,fun _ h=>h,YO _,hl,fun _ _ h=>⟨rfl,h⟩,rfl,rfl,rfl,fun _ h=> .inr h,by rw[hd];simp,by rw[hd];exact .nil⟩
theorem VS.of{P:Program}{f:FuncId}{fn:Func}{c:Code}{N:Nat}{args:List Slot}{res:Slot}{new:List (Nat×VH)}
  (hf:P.funcs[f]? =some fn) (hb:fn.body=some c) (hN:fn.ntmps=N) (hle:Nat.ble args.length N=true)
  (h:∀S w,T7 ⟨P,N,S,w,fun _=>False,none,[]⟩ ⟨P,N,S,w,fun _=>False,none,[]⟩->W ⟨P,N,S,w,fun _=>False,none,[]⟩ [c] ⟨enum 0 args,[]⟩ (Om ⟨P,N,S,w,fun _=>False,none,[]⟩ fn res new)):VS P f args res new:=by
 intro S w vs ρ ZX hv;refine(callsIn_wide (n:=0)).1 (callsIn_of_wp_marks hf hb trivial ?_);have K:=Gt hv;have hle:=w7 hle;have E:St ⟨P,N,S,w,fun _=>False,none,[]⟩ ⟨enum 0 args,[]⟩ { tmps:=vs.toArray++Array.replicate (fn.ntmps - vs.toArray.size) undef,defers:=[] } w:= ?_
 ·have z:c.wpIn Fence.wide 0 P (Exit.then (run Fence.wide P (Om ⟨P,N,S,w,fun _=>False,none,[]⟩ fn res new) []) (Om ⟨P,N,S,w,fun _=>False,none,[]⟩ fn res new)) { tmps:=vs.toArray++Array.replicate (fn.ntmps - vs.toArray.size) undef,defers:=[] } w:=h S w (.refl ZX rfl) _ w E;refine wpIn_mono z ?_;have F:∀e a w',Om ⟨P,N,S,w,fun _=>False,none,[]⟩ fn res new e a w'->bodyPostM Fence.wide 0 P fn (fun e w'=>∃v,e= .returned v/\XJ ρ S w res new v w') e a w':=fun e a w' C=>Lu (fun e w ⟨v,z,D⟩=>⟨v,z,D ρ⟩) C;intro e a w' C;cases e<;>exact F _ _ _ C
 ·refine⟨⟨ρ,⟨ZX,YO _,fun _ _ _=>rfl,rfl,rfl,rfl,fun i B h=>by simp[aX] at h,fun i B b h=>by simp[aX] at h,fun i j B L b h=>by simp[aX] at h,fun i B b h=>by simp[aX] at h⟩,fun t s H=>?_⟩,?_,rfl⟩
  ·obtain⟨_,u,z,D⟩:=Lt args vs 0 hv t s H;have G:t<vs.length:=by
    rcases K3 t vs.length with h | h
    ·exact h
    ·simp[X3 h] at z
   have:(vs.toArray++Array.replicate (fn.ntmps - vs.toArray.size) undef).getD t undef=u:=by
    rw[oe,aDm (by simpa using G)];simp at z ⊢;rw[z];rfl
   rw[this];exact Slot.VE s u D ⟨YO _,fun k _ I=>⟨rfl,fun A=>I (by rcases A with A |⟨i,B,A,_⟩;exact A;simp[aX] at A)⟩⟩ (fun _ _=>rfl)
  ·simp only[aEi,aD8,aEj];omega
def wM(a:Act):ResultVar->Sem Value
 | .tmp t=>pure (a.tmps.getD t undef)
 | .cell c t=>do loadVar t (<-asAddr (a.tmps.getD c undef))
def RV(F:WV)(σ:AS)(rv:ResultVar)(s:Slot):Prop:=
 ∀(ρ:Nat->LV) (a:Act) (w:World),Core F σ.d ρ w->(∀t s,lk σ.g t=some s->s.ok ρ (Un F.S0 ρ σ.d) w (a.tmps.getD t undef))->
  ∃v,(wM a rv).run F.P w= .ok v w/\s.ok ρ (Un F.S0 ρ σ.d) w v
theorem RV.tmp{F:WV}{σ:AS}{t:Tmp}{s:Slot}(h:lk σ.g t=some s):RV F σ (.tmp t) s:=fun _ a _ _ u=>⟨a.tmps.getD t undef,rfl,u t s h⟩
inductive y7:List (Nat×VH)->List (Nat×VH)->Prop
 |nil {d}:y7 [] d
 |cons {d i en r}:aX d i=some en->y7 r d->y7 ((i,en)::r) d
theorem y7.spec{n d:List (Nat×VH)}(h:y7 n d):∀i en,aX n i=some en->aX d i=some en:=by
 induction h with
 |nil=>intro i en h;simp[aX] at h
 |cons u _ z=>
  rename_i j A r _;intro i en h;simp only[aX] at h;cases hb:Nat.beq j i with
  |true=>have:=s8 hb;subst this;rw[hb] at h;simp at h;subst h;exact u
  |false=>rw[hb] at h;exact z i en h
def kY(res:Slot)(new:List (Nat×VH)):Bool:=res.YF.all (fun i=>(aX new i).isSome) && new.all fun x=>x.2.YF.all fun i=>(aX new i).isSome
theorem XJ.n9{F:WV}{σ:AS}{ρ:Nat->LV}{w:World}{v:Value}{res:Slot}{new:List (Nat×VH)}(hR:∀k,¬F.R k)(hc:Core F σ.d ρ w)(hr:res.ok ρ (Un F.S0 ρ σ.d) w v)
  (hn:y7 new σ.d) (YK:kY res new=true) (ρ0:Nat->LV):XJ ρ0 F.S0 F.w0 res new v w:=by
 have A:=hn.spec;simp only[kY,D1,j4] at YK;let ρ':Nat->LV:=fun i=>if (aX new i).isSome then ρ i else ρ0 i
 have z:∀i,(aX new i).isSome=true->ρ' i=ρ i:=fun i h=>WJ h
 have H:Ext (Un F.S0 ρ σ.d) (Un F.S0 ρ' new) w w:=⟨YO _,fun k _ E=>⟨rfl,fun h=>E (by
  rcases h with h |⟨i,u,D,G⟩
  ·exact .inl h
  ·exact .inr ⟨i,u,A i u D,by rw[<-z i (by rw[D];rfl)];exact G⟩)⟩⟩
 refine⟨ρ',fun i h=>by simp[ρ',h],⟨hc.os,hc.tape,hc.output,hc.size,fun k E=>hc.frame k E (hR k)⟩,Slot.VE res v hr H (fun i B=>congrArg LV.v (z i (YK.1 i B))),⟨fun i u h=>?_,fun i u b h I=>?_,fun i j u K b B C L M=>?_⟩⟩
 ·rw[z i (by rw[h];rfl)];exact VH.VE (hc.own i u (A i u h)) H (fun j C=>congrArg LV.v (z j (YK.2 _ (mO h) j C))) (fun _ _=>rfl)
 ·rw[z i (by rw[h];rfl)] at I;obtain⟨D,G⟩:=hc.fresh i u b (A i u h) I;exact⟨D.resolve_right (hR b),G⟩
 ·rw[z i (by rw[B];rfl)] at L;rw[z j (by rw[C];rfl)] at M;exact hc.inj i j u K b (A i u B) (A j K C) L M
theorem xI(fn:Func)(a:Act):results fn a.tmps=(do
  let vs<-fn.results.mapM (wM a)
  pure (if h:vs.size=1 then vs[0] else .tuple vs)):=rfl
theorem Zi{P:Program}{S0:Nat->Prop}{B:Nat}:∀(ds:List Deferred) (w:World),(∀d∈ds,∃r,d.target= .collected r/\S0 r/\B<=r/\w.heap[r]? =some (.deferred (some [])))->ds.Pairwise (fun d d'=>d.target≠d'.target)->
  ∃w',w'.heap.size=w.heap.size/\(∀k,¬(S0 k/\B<=k)->w'.heap[k]? =w.heap[k]?)/\w'.os=w.os/\w'.tape=w.tape/\w'.output=w.output/\
   ∀fn tmps R,(∃v,(results fn tmps).run P w'= .ok v w'/\R v w')->uj P fn tmps R ds w
 | [],w,_,_=>⟨w,rfl,fun _ _=>rfl,rfl,rfl,rfl,fun _ _ _ h=>h⟩
 |d::ds,w,h,z=>by
  obtain⟨r,D,H,I,K⟩:=h d Y9;rw[List.pairwise_cons] at z;have F:∀e∈ds,∃u,e.target= .collected u/\S0 u/\B<=u/\(w.putObj r (.deferred none)).heap[u]? =some (.deferred (some [])):=by
   intro e A;obtain⟨u,E,L,M,N⟩:=h e (Y8 _ A);refine⟨u,E,L,M,?_⟩;rw[World.putObj_heap_other];exact N;rintro rfl;exact z.1 e A (D.trans E.symm)
  obtain⟨w',O,Q,S,T,U,V⟩:=Zi ds (w.putObj r (.deferred none)) F z.2;refine⟨w',by rw[O,World.putObj_size],fun k C=>?_,S,T,U,fun fn tmps R G=>⟨r,_,D,run_takeDeferred K,V fn tmps R G⟩⟩;rw[Q k C,World.putObj_heap_other];rintro rfl;exact C ⟨H,I⟩
theorem Core.leave{F F':WV}{d:List (Nat×VH)}{ρ:Nat->LV}{w:World}(hF:T7 F F')(hc:Core F' d ρ w):∃w',Core F d ρ w'/\Ext (Un F'.S0 ρ d) (Un F.S0 ρ d) w w'/\
  ∀fn tmps R,(∃v,(results fn tmps).run F.P w'= .ok v w'/\R v w')->uj F.P fn tmps R F'.df w:=by
 have K:∀x∈F'.df,∃r,x.target= .collected r/\F'.S0 r/\F.w0.heap.size<=r/\w.heap[r]? =some (.deferred (some [])):=by
  intro x D;obtain⟨r,z,C,Q,T,I⟩:=hF.df x D;exact⟨r,z,C,T,by rw[hc.frame r (ze.1 I).1 Q];exact I⟩
 obtain⟨w',E,G,U,V,X,a6⟩:=Zi (P:=F.P) F'.df w K hF.nd;have L:∀k,Un F.S0 ρ d k->Un F'.S0 ρ d k:=fun k h=>h.imp (hF.S k) (fun h=>h);have H:Ext (Un F'.S0 ρ d) (Un F.S0 ρ d) w w':=⟨by rw[E];exact YO _,fun k _ B=>⟨G k fun h=>B (.inl h.1),fun h=>B (L k h)⟩⟩;have M:∀i u b,aX d i=some u->qS (ρ i) b->w'.heap[b]? =w.heap[b]? :=fun i u b h A=>G b fun D=>hc.apart i u b h A D.1
 refine⟨w',⟨hF.low,by rw[E];exact db hF.size hc.size,fun k B N=>?_,U.trans (hc.os.trans hF.os),V.trans (hc.tape.trans hF.tape),X.trans (hc.output.trans hF.output),fun i u h=>VH.VE (hc.own i u h) H (fun _ _=>rfl) (fun b A=>M i u b h A),
  fun i u b h A=>?_,hc.inj,fun i u b h A O=>hc.apart i u b h A (hF.S b O)⟩,H,a6⟩
 ·obtain⟨z,C⟩:=hF.frame k B N;rw[G k (fun h=>by omega),hc.frame k (O3 B hF.size) C,z]
 ·obtain⟨z,C⟩:=hc.fresh i u b h A;refine⟨?_,by rw[E];exact C⟩;rcases z with z | z
  ·exact .inl (db hF.size z)
  ·exact hF.fresh b z
theorem yM{F F':WV}{σ:AS}{fn:Func}{R:Ending->World->Prop}(hF:T7 F F')
  (h:∀(ρ:Nat->LV) (a:Act) (w:World),Core F σ.d ρ w->(∀t s,lk σ.g t=some s->s.ok ρ (Un F.S0 ρ σ.d) w (a.tmps.getD t undef))->∃v,(results fn a.tmps).run F.P w= .ok v w/\R (.returned v) w):
  XQ F' σ (bodyPostM Fence.wide 0 F.P fn R) .ret:=by
 intro a w z;obtain⟨⟨ρ,B,C⟩,K,D⟩:=z;obtain⟨E,G,H,I⟩:=B.leave hF;have u:=h ρ a E G fun t s A=>Slot.VE s _ (C t s A) H (fun _ _=>rfl);show LeavesInM Fence.wide 0 F.P fn a.tmps R a.defers .returning w;rw[D];exact(I fn a.tmps (fun v w=>R (.returned v) w) u).leaves fun _ _ h=>h
theorem Tl{P:Program}{fn:Func}{a:Act}{w:World}{rv:ResultVar}{v:Value}(y1:fn.results= #[rv])(h1:(wM a rv).run P w= .ok v w):(results fn a.tmps).run P w= .ok v w:=by
 rw[xI,y1];simp only[aDw,aCt,aEo,Sem.run_bind,Sem.run_map,h1,Result.andThen_ok,Sem.run_pure];simp
theorem Tm{P:Program}{fn:Func}{a:Act}{w:World}{rv gz:ResultVar}{v v':Value}(y1:fn.results= #[rv,gz])(h1:(wM a rv).run P w= .ok v w)(o7:(wM a gz).run P w= .ok v' w):(results fn a.tmps).run P w= .ok (.tuple #[v,v']) w:=by
 rw[xI,y1];simp only[aDw,aCt,aEo,Sem.run_bind,Sem.run_map,h1,o7,Result.andThen_ok,Sem.run_pure];simp
theorem Tn{P:Program}{fn:Func}{a:Act}{w:World}{rv gz zx:ResultVar}{v v' v2:Value}(y1:fn.results= #[rv,gz,zx])(h1:(wM a rv).run P w= .ok v w)(o7:(wM a gz).run P w= .ok v' w)(jl:(wM a zx).run P w= .ok v2 w):(results fn a.tmps).run P w= .ok (.tuple #[v,v',v2]) w:=by
 rw[xI,y1];simp only[aDw,aCt,aEo,Sem.run_bind,Sem.run_map,h1,o7,jl,Result.andThen_ok,Sem.run_pure];simp
theorem RF{ρ:Nat->LV}{S:Nat->Prop}{w:World}{s s':Slot}{v v':Value}(h2:s.ok ρ S w v)(r7:s'.ok ρ S w v'):(Slot.WC [s,s']).ok ρ S w (.tuple #[v,v']):=by
 simp only[Slot.ok];exact⟨[v,v'],rfl,by simp only[aW];exact⟨v,_,rfl,h2,v',_,rfl,r7,rfl⟩⟩
theorem RG{ρ:Nat->LV}{S:Nat->Prop}{w:World}{s s' s2:Slot}{v v' v2:Value}(h2:s.ok ρ S w v)(r7:s'.ok ρ S w v')(h22:s2.ok ρ S w v2):(Slot.WC [s,s',s2]).ok ρ S w (.tuple #[v,v',v2]):=by
 simp only[Slot.ok];exact⟨[v,v',v2],rfl,by simp only[aW];exact⟨v,_,rfl,h2,v',_,rfl,r7,v2,_,rfl,h22,rfl⟩⟩
section
variable {F F':WV}{σ:AS}{fn:Func}{rv gz zx:ResultVar}{res s s' s2:Slot}{new:List (Nat×VH)}
theorem aY(hF:T7 F F')(hR:∀k,¬F.R k)(y1:fn.results= #[rv])(h:RV F σ rv res)(hn:y7 new σ.d)(YK:kY res new=true):XQ F' σ (Om F fn res new) .ret:=
 yM hF fun ρ a w u z=>by
  obtain⟨v,A,B⟩:=h ρ a w u z;exact⟨v,Tl y1 A,v,rfl,XJ.n9 hR u B hn YK⟩
theorem bT(hF:T7 F F')(hR:∀k,¬F.R k)(y1:fn.results= #[rv,gz])(h:RV F σ rv s)(h':RV F σ gz s')(hn:y7 new σ.d)(YK:kY (.WC [s,s']) new=true):XQ F' σ (Om F fn (.WC [s,s']) new) .ret:=
 yM hF fun ρ a w u z=>by
  obtain⟨v,A,B⟩:=h ρ a w u z;obtain⟨E,C,D⟩:=h' ρ a w u z;exact⟨_,Tm y1 A C,_,rfl,XJ.n9 hR u (RF B D) hn YK⟩
theorem wQ(hF:T7 F F')(hR:∀k,¬F.R k)(y1:fn.results= #[rv,gz,zx])(h:RV F σ rv s)(h':RV F σ gz s')(h'':RV F σ zx s2)(hn:y7 new σ.d)(YK:kY (.WC [s,s',s2]) new=true):XQ F' σ (Om F fn (.WC [s,s',s2]) new) .ret:=
 yM hF fun ρ a w u z=>by
  obtain⟨v,A,B⟩:=h ρ a w u z;obtain⟨H,C,D⟩:=h' ρ a w u z;obtain⟨I,E,G⟩:=h'' ρ a w u z;exact⟨_,Tn y1 A C E,_,rfl,XJ.n9 hR u (RG B D G) hn YK⟩
end
end Go.Sw
namespace Go.Sw
open Go Go.RowKit
theorem XJ.same{ρ:Nat->LV}{S:Nat->Prop}{w:World}{s:Slot}{v:Value}(h:s.ok ρ S w v):XJ ρ S w s [] v w:=
 ⟨ρ,fun _ _=>rfl,Below.refl _ _,Slot.VE s v h ⟨YO _,fun k _ u=>⟨rfl,fun h=>u (by
  rcases h with h |⟨i,A,z,_⟩
  ·exact h
  ·simp[aX] at z)⟩⟩ (fun _ _=>rfl),⟨fun _ _ h=>by simp[aX] at h,fun _ _ _ h=>by simp[aX] at h,fun _ _ _ _ _ h=>by simp[aX] at h⟩⟩
theorem yN(k:IntKind)(n:Int):Cw k (k.wrap n):=by
 unfold Cw;cases k<;>simp only[IntKind.min,IntKind.max,IntKind.wrap,IntKind.signed,IntKind.bits]<;>simp<;>(try split)<;>omega
section
variable {F:WV}{σ:AS}{s:Slot}{d:Option Tmp}{ty:TypeId}{p:String}{af:Array Edge}{gd:Option (Nat×Bool)}{x y c:Operand}
theorem aD(hx:dD σ.g x=some s):JO F ⟨d,.move x,ty,p,af,gd⟩ σ s []:=
 fun _ _ _ w K=>VJ.value (w':=w) (by simp[execOp]) (XJ.same (K.slot x (by simp[Op.operands]) s hx))
theorem bP(hx:dD σ.g x=some s):JO F ⟨d,.assign x,ty,p,af,gd⟩ σ s []:=
 fun _ _ _ w K=>VJ.value (w':=w) (by simp[execOp]) (XJ.same (K.slot x (by simp[Op.operands]) s hx))
theorem To{α:Type}(e:Wr α)(ρ:Nat->LV)(S:Nat->Prop)(w:World):(Slot.v (Wr.sl e) []).ok ρ S w (.slice none 0 0):=by
 simp only[Slot.ok];exact sG.2 ⟨none,0,rfl,by simp,.inl rfl⟩
theorem kZ{α:Type}(e:Wr α):JO F ⟨d,.assign (.const (.slice none 0 0)),ty,p,af,gd⟩ σ (.v (Wr.sl e) []) []:=
 fun ρ S _ w _=>VJ.value (w':=w) (by simp[execOp,Act.eval]) (XJ.same (To e ρ S w))
theorem Pj(T:TypeId)(ρ:Nat->LV)(S:Nat->Prop)(w:World):(Slot.v (Wr.err T) none).ok ρ S w .nilIface:=by
 simp only[Slot.ok];exact At.2 rfl
theorem zD(T:TypeId):JO F ⟨d,.assign (.const .nilIface),ty,p,af,gd⟩ σ (.v (Wr.err T) none) []:=
 fun ρ S _ w _=>VJ.value (w':=w) (by simp[execOp,Act.eval]) (XJ.same (Pj T ρ S w))
theorem Lv{α:Type}{w:World}{S:Nat->Prop}(T:TypeId)(e:Wr α)(i:Nat)(ρ:Nat->LV):XJ ρ S w (.ref i) [(i,.arr T e [])] (.slice none 0 0) w:=by
 refine⟨fun j=>if j=i then .of (.slice none 0 0) else ρ j,fun j A=>?_,Below.refl _ _,by simp only[Slot.ok,ZU];exact⟨.inl ⟨_,_,_,rfl⟩,rfl⟩,⟨fun j z h=>?_,fun j z b h u=>?_,fun j k z B b h C u _=>?_⟩⟩
 ·have:j≠i:=fun e=>by subst e;simp[aX] at A
  simp[this]
 ·simp only[aX] at h;cases u:Nat.beq i j with
  |true=>have:=s8 u;subst this;rw[u] at h;simp at h;subst h;exact .inl ⟨rfl,by simp[LV.of]⟩
  |false=>rw[u] at h;simp at h
 ·simp only[aX] at h;cases hc:Nat.beq i j with
  |true=>have:=s8 hc;subst this;simp[pD,YN] at u
  |false=>rw[hc] at h;simp at h
 ·simp only[aX] at h;cases hc:Nat.beq i j with
  |true=>have:=s8 hc;subst this;simp[pD,YN] at u
  |false=>rw[hc] at h;simp at h
theorem aR{α:Type}(i:Nat)(T:TypeId)(e:Wr α):JO F ⟨d,.assign (.const (.slice none 0 0)),ty,p,af,gd⟩ σ (.ref i) [(i,.arr T e [])]:=
 fun ρ _ _ w _=>VJ.value (w':=w) (by simp[execOp,Act.eval]) (Lv T e i ρ)
theorem Wz{σ:AS}{xs:Array Operand}{ρ S a w}(K:m7 σ xs ρ S a w){x:Operand}(hm:x∈xs){b:Bool}(hx:dD σ.g x=some (.v Wr.bool b)):a.eval x= .bool b:=by
 have:=K.slot x hm _ hx;simp only[Slot.ok] at this;exact zM.1 this
theorem fQ{σ:AS}{xs:Array Operand}{ρ S a w}(K:m7 σ xs ρ S a w){x:Operand}(hm:x∈xs){k:IntKind}{n:Int}(hx:dD σ.g x=some (.v (Wr.int k) n)):a.eval x= .int k n/\Cw k n:=by
 have:=K.slot x hm _ hx;simp only[Slot.ok] at this;exact vL.1 this
theorem pE(b:Bool)(ρ:Nat->LV)(S:Nat->Prop)(w:World):(Slot.v Wr.bool b).ok ρ S w (.bool b):=by simp only[Slot.ok];exact zM.2 rfl
theorem tC{k:IntKind}{n:Int}(h:Cw k n)(ρ:Nat->LV)(S:Nat->Prop)(w:World):(Slot.v (Wr.int k) n).ok ρ S w (.int k n):=by simp only[Slot.ok];exact vL.2 ⟨rfl,h⟩
theorem FA(hc:dD σ.g c=some (.v Wr.bool true))(hx:dD σ.g x=some s):JO F ⟨d,.pick c x y,ty,p,af,gd⟩ σ s []:=
 fun _ _ _ w K=>VJ.value (w':=w) (by simp[execOp,Wz K (x:=c) (by simp[Op.operands]) hc,asBool]) (XJ.same (K.slot x (by simp[Op.operands]) s hx))
theorem FB(hc:dD σ.g c=some (.v Wr.bool false))(hy:dD σ.g y=some s):JO F ⟨d,.pick c x y,ty,p,af,gd⟩ σ s []:=
 fun _ _ _ w K=>VJ.value (w':=w) (by simp[execOp,Wz K (x:=c) (by simp[Op.operands]) hc,asBool]) (XJ.same (K.slot y (by simp[Op.operands]) s hy))
theorem Av{o:BinOp}{T T':TypeId}{v:Value}{k k':IntKind}{m n:Int}{ρ:Nat->LV}{S:Nat->Prop}
  {a:Act} {w:World} {s:Slot} (h1:a.eval x= .int k m) (h2:a.eval y= .int k' n) (h:(Go.binOp o T (.int k m) (.int k' n)).run F.P w= .ok v w) (hs:s.ok ρ S w v):
  VJ F.P ⟨d,.binOp o T x y T',ty,p,af,gd⟩ a w (XJ ρ S w s []):=by
 refine VJ.value (w':=w) (v:=v) ?_ (XJ.same hs);simp only[execOp,h1,h2];have:(eqGuard o T x y (.int k m) (.int k' n)).run F.P w= .ok () w:=by
  unfold eqGuard;by_cases u:(!(match o with | .eql | .neq=>true | _=>false))=true
  ·cases o<;>simp at u<;>simp
  ·cases o<;>simp at u<;>simp
 simp[this,h]
def ar(o:BinOp)(k:IntKind)(m n:Int):Int:=
 match o with
 | .add=>k.wrap (m+n)
 | .sub=>k.wrap (m - n)
 | .mul=>k.wrap (m*n)
 | .quo=>k.wrap (m.tdiv n)
 | .rem=>m.tmod n
 | .and=>k.wrap (BitVec.ofInt k.bits m &&& BitVec.ofInt k.bits n).toNat
 | .or=>k.wrap (BitVec.ofInt k.bits m ||| BitVec.ofInt k.bits n).toNat
 | .xor=>k.wrap (BitVec.ofInt k.bits m ^^^ BitVec.ofInt k.bits n).toNat
 | .andNot=>k.wrap (BitVec.ofInt k.bits m &&& ~~~ BitVec.ofInt k.bits n).toNat
 |_=>0
def cm(o:BinOp)(m n:Int):Bool:=
 match o with
 | .eql=>m==n
 | .neq=>m != n
 | .lss=>decide (m<n)
 | .leq=>decide (m<=n)
 | .gtr=>decide (m>n)
 | .geq=>decide (m>=n)
 |_=>false
def OT:BinOp->Bool
 | .add | .sub | .mul | .and | .or | .xor | .andNot=>true
 |_=>false
def RH:BinOp->Bool
 | .eql | .neq | .lss | .leq | .gtr | .geq=>true
 |_=>false
theorem cU{o:BinOp}{T T':TypeId}{k:IntKind}{m n:Int}(ho:OT o=true)(hx:dD σ.g x=some (.v (Wr.int k) m))(hy:dD σ.g y=some (.v (Wr.int k) n)):
  JO F ⟨d,.binOp o T x y T',ty,p,af,gd⟩ σ (.v (Wr.int k) (ar o k m n)) []:=by
 intro ρ S a w K;refine Av (fQ K (by simp[Op.operands]) hx).1 (fQ K (by simp[Op.operands]) hy).1 (v:= .int k (ar o k m n)) ?_ (tC ?_ ρ S w)
 ·cases o<;>simp[OT] at ho<;>simp[binOp,Op.intArith,Op.intBits,ar]
 ·cases o<;>simp[OT] at ho<;>exact yN _ _
theorem KR{k:IntKind}{m n:Int}(h:Cw k m):Cw k (m.tmod n):=by
 unfold Cw at*;have u:(m.tmod n).natAbs<=m.natAbs:=by rw[Int.natAbs_tmod];exact Nat.mod_le _ _
 have z:0<=m->0<=m.tmod n:=fun h=>aEv _ h;have A:m<=0->m.tmod n<=0:=fun h=>by
  have:=aEv n (a:= -m) (by omega);rw[Int.neg_tmod] at this;omega
 have B:k.min<=0:=by cases k<;>decide
 have C:0<=k.max:=by cases k<;>decide
 omega
theorem kK{o:BinOp}{T T':TypeId}{k:IntKind}{m n:Int}(ho:o= .quo\/o= .rem)(hn:n≠0)(hx:dD σ.g x=some (.v (Wr.int k) m))(hy:dD σ.g y=some (.v (Wr.int k) n)):
  JO F ⟨d,.binOp o T x y T',ty,p,af,gd⟩ σ (.v (Wr.int k) (ar o k m n)) []:=by
 intro ρ S a w K;refine Av (fQ K (by simp[Op.operands]) hx).1 (fQ K (by simp[Op.operands]) hy).1 (v:= .int k (ar o k m n)) ?_ (tC ?_ ρ S w)
 ·rcases ho with rfl | rfl<;>simp[binOp,Op.intDiv,hn,ar]
 ·rcases ho with rfl | rfl
  ·exact yN _ _
  ·exact KR (fQ K (by simp[Op.operands]) hx).2
theorem jL{o:BinOp}{T T':TypeId}{k:IntKind}{m n:Int}(ho:RH o=true)(hx:dD σ.g x=some (.v (Wr.int k) m))(hy:dD σ.g y=some (.v (Wr.int k) n)):
  JO F ⟨d,.binOp o T x y T',ty,p,af,gd⟩ σ (.v Wr.bool (cm o m n)) []:=by
 intro ρ S a w K;refine Av (fQ K (by simp[Op.operands]) hx).1 (fQ K (by simp[Op.operands]) hy).1 (v:= .bool (cm o m n)) ?_ (pE _ ρ S w);cases o<;>simp[RH] at ho<;>simp[binOp,Op.intCmp,cm]
def sh(o:BinOp)(k:IntKind)(m n:Int):Int:=
 match o with
 | .shl=>k.wrap (m*2 ^ min n.toNat k.bits)
 | .shr=>m.fdiv (2 ^ min n.toNat k.bits)
 |_=>0
theorem OU{k:IntKind}{m:Int}(h:Cw k m)(j:Nat):Cw k (m.fdiv (2 ^ j)):=by
 unfold Cw at*;have u:(0:Int)<2 ^ j:=aEx (by decide);have z:k.min<=0:=by cases k<;>decide
 have A:0<=k.max:=by cases k<;>decide
 rw[vg _ (aEc u)];constructor
 ·refine(Int.le_ediv_iff_mul_le u).2 ?_;have:k.min*2 ^ j<=k.min*1:=Int.mul_le_mul_of_nonpos_left z (by omega);omega
 ·refine Int.le_trans (Int.ediv_le_ediv u h.2) ?_;exact Int.ediv_le_self _ A
theorem fA{o:BinOp}{T T':TypeId}{k k':IntKind}{m n:Int}(ho:o= .shl\/o= .shr)(hn:0<=n)(hx:dD σ.g x=some (.v (Wr.int k) m))(hy:dD σ.g y=some (.v (Wr.int k') n)):
  JO F ⟨d,.binOp o T x y T',ty,p,af,gd⟩ σ (.v (Wr.int k) (sh o k m n)) []:=by
 intro ρ S a w K;refine Av (fQ K (by simp[Op.operands]) hx).1 (fQ K (by simp[Op.operands]) hy).1 (v:= .int k (sh o k m n)) ?_ (tC ?_ ρ S w)
 ·have:¬n<0:=by omega
  rcases ho with rfl | rfl<;>simp[binOp,Op.shift,this,sh]
 ·rcases ho with rfl | rfl
  ·exact yN _ _
  ·exact OU (fQ K (by simp[Op.operands]) hx).2 _
theorem Ft{T:TypeId}{b:Bool}(hx:dD σ.g x=some (.v Wr.bool b)):JO F ⟨d,.unOp .not T x,ty,p,af,gd⟩ σ (.v Wr.bool (!b)) []:=
 fun ρ S _ w K=>VJ.value (w':=w) (v:= .bool (!b)) (by simp[execOp,Wz K (x:=x) (by simp[Op.operands]) hx,Op.unary]) (XJ.same (pE _ ρ S w))
theorem Xa{T:TypeId}{k:IntKind}{n:Int}(hx:dD σ.g x=some (.v (Wr.int k) n)):JO F ⟨d,.unOp .neg T x,ty,p,af,gd⟩ σ (.v (Wr.int k) (k.wrap (0 - n))) []:=
 fun ρ S _ w K=>VJ.value (w':=w) (v:= .int k (k.wrap (0 - n))) (by simp[execOp,(fQ K (x:=x) (by simp[Op.operands]) hx).1,Op.unary,Op.intArith]) (XJ.same (tC (yN _ _) ρ S w))
def BW(k:IntKind)(n:Int):Int:=k.wrap (BitVec.ofInt k.bits (if k.signed then -1 else k.max) ^^^ BitVec.ofInt k.bits n).toNat
theorem OV{T:TypeId}{k:IntKind}{n:Int}(hx:dD σ.g x=some (.v (Wr.int k) n)):JO F ⟨d,.unOp .xor T x,ty,p,af,gd⟩ σ (.v (Wr.int k) (BW k n)) []:=
 fun ρ S _ w K=>VJ.value (w':=w) (v:= .int k (BW k n)) (by simp[execOp,(fQ K (x:=x) (by simp[Op.operands]) hx).1,Op.unary,Op.intBits,BW]) (XJ.same (tC (yN _ _) ρ S w))
theorem Zj{A B:TypeId}{da:TypeDesc}{k k':IntKind}{n:Int}(ha:∀w,(underlying A).run F.P w= .ok da w)(hb:∀w,(underlying B).run F.P w= .ok (.int k') w)(hx:dD σ.g x=some (.v (Wr.int k) n)):
  JO F ⟨d,.convert A B x,ty,p,af,gd⟩ σ (.v (Wr.int k') (k'.wrap n)) []:=
 fun ρ S _ w K=>VJ.value (w':=w) (v:= .int k' (k'.wrap n)) (by simp[execOp,(fQ K (x:=x) (by simp[Op.operands]) hx).1,convert,ha,hb,Conv.intToInt]) (XJ.same (tC (yN _ _) ρ S w))
theorem FC{T:TypeId}{n:Int}(ha:∀w,(underlying T).run F.P w= .ok (.int .i64) w)(hx:dD σ.g x=some (.v (Wr.int .i64) n)):
  JO F ⟨d,.makeInterface T x,ty,p,af,gd⟩ σ (.v (Wr.err T) (some n)) []:=by
 intro ρ S a w K;obtain⟨h,u⟩:=fQ K (x:=x) (by simp[Op.operands]) hx;exact VJ.value (w':=w) (v:= .iface T (.int .i64 n)) (by simp[execOp,h,Instr.makeInterface,ha]) (XJ.same (by simp only[Slot.ok];exact Au.2 ⟨rfl,u⟩))
theorem bW{n:Nat}{l:List Slot}(hx:dD σ.g x=some (.WC l))(hs:l[n]? =some s):JO F ⟨d,.extract x n,ty,p,af,gd⟩ σ s []:=by
 intro ρ S a w K;have h:=K.slot x (by simp[Op.operands]) _ hx;simp only[Slot.ok] at h;obtain⟨vs,E,G⟩:=h;have D:∀(l:List Slot) (vs:List Value) (n:Nat),aW ρ S w l vs->l[n]? =some s->∃v,vs[n]? =some v/\s.ok ρ S w v:=by
  intro l
  induction l with
  |nil=>intro vs n _ h;simp at h
  |cons t l I=>
   intro vs n C z;simp only[aW] at C;obtain⟨u,H,rfl,A,B⟩:=C;cases n with
   |zero=>simp at z;subst z;exact⟨u,rfl,A⟩
   |succ n=>exact I H n B (by simpa using z)
 obtain⟨v,A,B⟩:=D l vs n G hs;exact VJ.value (w':=w) (v:=v) (by simp[execOp,E,Instr.extract,A]) (XJ.same B)
theorem OA{σ:AS}{xs:Array Operand}{ρ S a w}(K:m7 σ xs ρ S a w){x:Operand}(hm:x∈xs){T:TypeId}{o:Option Int}(hx:dD σ.g x=some (.v (Wr.err T) o)):
  a.eval x=(match o with | none=> .nilIface | some n=> .iface T (.int .i64 n)):=by
 have:=K.slot x hm _ hx;simp only[Slot.ok] at this;cases o with
 |none=>exact At.1 this
 |some n=>exact(Au.1 this).1
theorem Tp(t:TypeId)(x y:Value):Op.equal t x y=Op.equalIn (9998+1+1) t x y:=rfl
theorem BX{P:Program}{a:Act}{w:World}{o:BinOp}{T T':TypeId}{u v:Value}{r b:Bool}(ho:(o= .eql/\b=r)\/(o= .neq/\b= !r))(hx:a.eval x=u)(hy:a.eval y=v)
  (hk:∀k m,u≠.int k m) (hs:∀s,u≠.string s) (hf:∀k m,u≠.float k m) (hc:∀k m n,u≠.complex k m n)
  (hg:(eqGuard o T x y u v).run P w= .ok () w) (he:(Op.equalIn (9998+1+1) T u v).run P w= .ok r w):
  (execOp a.eval ⟨d,.binOp o T x y T',ty,p,af,gd⟩).run P w= .ok (.value (.bool b)) w:=by
 have h:(Go.binOp o T u v).run P w= .ok (.bool b) w:=by
  rcases ho with⟨rfl,rfl⟩|⟨rfl,rfl⟩
  ·have:Go.binOp .eql T u v=(do pure (.bool (<-Op.equal T u v))):=by
    cases u<;>first | rfl | (exact absurd rfl (hk _ _)) | (exact absurd rfl (hs _)) | (exact absurd rfl (hf _ _)) | (exact absurd rfl (hc _ _ _))
   rw[this,Tp];simp[he]
  ·have:Go.binOp .neq T u v=(do pure (.bool (!(<-Op.equal T u v)))):=by
    cases u<;>first | rfl | (exact absurd rfl (hk _ _)) | (exact absurd rfl (hs _)) | (exact absurd rfl (hf _ _)) | (exact absurd rfl (hc _ _ _))
   rw[this,Tp];simp[he]
 simp only[execOp,hx,hy];simp[hg,h]
theorem Gu{P:Program}{w:World}{U T:TypeId}{ms:Array (String×TypeId)}(ha:∀w,(underlying U).run P w= .ok (.interface ms) w)(v:Value):(Op.equalIn (9998+1+1) U (.iface T v) .nilIface).run P w= .ok false w/\(Op.equalIn (9998+1+1) U .nilIface (.iface T v)).run P w= .ok false w/\(Op.equalIn (9998+1+1) U .nilIface .nilIface).run P w= .ok true w:=by
 refine⟨?_,?_,?_⟩<;>(rw[Op.equalIn];simp[ha])
theorem iN{T U U':TypeId}{o:Option Int}{ms:Array (String×TypeId)}(ha:∀w,(underlying U).run F.P w= .ok (.interface ms) w)(hx:dD σ.g x=some (.v (Wr.err T) o)):
  JO F ⟨d,.binOp .eql U x (.const .nilIface) U',ty,p,af,gd⟩ σ (.v Wr.bool o.isNone) []:=by
 intro ρ S a w K;have h:=OA K (x:=x) (by simp[Op.operands]) hx;refine VJ.value (w':=w) (v:= .bool o.isNone) (BX (r:=o.isNone) ?_ h rfl ?_ ?_ ?_ ?_ ?_ ?_) (XJ.same (pE _ ρ S w))
 ·cases o<;>simp
 ·cases o<;>simp
 ·cases o<;>simp
 ·cases o<;>simp
 ·cases o<;>simp
 ·cases o<;>simp[eqGuard,Act.eval]
 ·cases o with
  |none=>exact(Gu (T:=T) ha .nilIface).2.2
  |some n=>exact(Gu ha _).1
theorem FD{T U U':TypeId}{o:Option Int}{ms:Array (String×TypeId)}(ha:∀w,(underlying U).run F.P w= .ok (.interface ms) w)(hx:dD σ.g x=some (.v (Wr.err T) o)):
  JO F ⟨d,.binOp .neq U x (.const .nilIface) U',ty,p,af,gd⟩ σ (.v Wr.bool o.isSome) []:=by
 intro ρ S a w K;have h:=OA K (x:=x) (by simp[Op.operands]) hx;refine VJ.value (w':=w) (v:= .bool o.isSome) (BX (r:=o.isNone) ?_ h rfl ?_ ?_ ?_ ?_ ?_ ?_) (XJ.same (pE _ ρ S w))
 ·cases o<;>simp
 ·cases o<;>simp
 ·cases o<;>simp
 ·cases o<;>simp
 ·cases o<;>simp
 ·cases o<;>simp[eqGuard,Act.eval]
 ·cases o with
  |none=>exact(Gu (T:=T) ha .nilIface).2.2
  |some n=>exact(Gu ha _).1
end
end Go.Sw
namespace Go.Sw
open Go Go.RowKit
theorem VQ.cell{w:World}{b off:Nat}{cs:List Value}(h:VQ w b off cs):∀j v,cs[j]? =some v->w.cell? ((⟨b,off,none⟩:Addr).add j)=some v:=by
 obtain⟨c,T,D,B,C⟩:=h;intro j v A;have u:j<cs.length:=by
  rcases K3 j cs.length with h | h
  ·exact h
  ·simp[X3 h] at A
 have z:cs[j]=v:=by simpa[D3 u] using A
 have:=C j u;unfold Addr.add;split
 ·rename_i e;subst e;simp[World.cell?,B];simpa[z] using this
 ·simp[World.cell?,B,this,z]
theorem VQ.sub{w:World}{b off:Nat}{a c d:List Value}(h:VQ w b off (a++(c++d))):VQ w b (off+a.length) c:=by
 obtain⟨r,T,z,A,B⟩:=h;refine⟨r,T,z,A,fun j u=>?_⟩;have:=B (a.length+j) (by simp;omega);rw[aDs,this];simp[aC6 u]
theorem VQ.of_heap{w:World}{b:Nat}{cs:List Value}{T fr}(h:w.heap[b]? =some (.cells cs.toArray T fr)):VQ w b 0 cs:=
 ⟨_,T,fr,h,fun j u=>by simp[D3 u]⟩
theorem VQ.lt{w:World}{b off:Nat}{cs:List Value}(h:VQ w b off cs):b<w.heap.size:=by
 obtain⟨r,T,z,u,A⟩:=h;rcases K3 b w.heap.size with h | h
 ·exact h
 ·simp[zd h] at u
theorem Fu{α:Type}{P:Program}{e:Wr α}{x:α}{S:Nat->Prop}{w w0:World}{b off:Nat}{cs:List Value}{U:TypeId}(h:VQ w b off cs)(ho:e.ok x S w0 cs)
  (hA:∀w,(isAgg U).run P w= .ok e.agg w) (hS:∀w,(sizeOf U).run P w= .ok e.n w):(loadVar U ⟨b,off,none⟩).run P w= .ok (e.pk cs) w:=by
 unfold loadVar;simp only[Sem.run_bind,hA,Result.andThen_ok];have u:=e.len ho;cases ha:e.agg with
 |true=>
  simp only[ZU,Sem.run_bind,hS,Result.andThen_ok,Wr.pk,ha];rw[<-u,run_loadCells_list w _ cs h.cell];simp
 |false=>
  have z:=e.one ha;rw[z] at u;obtain⟨v,rfl⟩:=aCf.1 u;have:=h.cell 0 v rfl;simp[Addr.add] at this;simp[Wr.pk,ha,this]
def Slot.sz:Slot->Nat
 | .v e _=>e.n
 |_=>1
def Slot.ag:Slot->Bool
 | .v e _=>e.agg
 |_=>false
section
variable {ρ:Nat->LV}{S:Nat->Prop}{w:World}
theorem nL{s:Slot}{c:List Value}(h:s.YW ρ S w c):c.length=s.sz:=by
 cases s<;>simp only[Slot.YW] at h<;>simp only[Slot.sz]
 case v e x=>exact e.len h
 case ref=>rw[h.2];rfl
 case ptr=>rw[h.2];rfl
 case dw=>rw[h.2];rfl
 case el=>rw[h.2];rfl
 case r8=>rw[h.2];rfl
 case ln=>rw[h.2];rfl
 case sub=>obtain⟨_,u,z,_,_,h⟩:=h;rw[h];rfl
 case XR=>obtain⟨b,A,B,h,_⟩:=h;rw[h];rfl
 case ZJ=>obtain⟨vs,h,_⟩:=h;rw[h];rfl
 case top=>rw[h];rfl
theorem Zk{s:Slot}{c:List Value}(h:s.YW ρ S w c):s.ok ρ S w (if s.ag then .agg c.toArray else c.headD undef):=by
 cases s<;>simp only[Slot.YW] at h<;>simp only[Slot.ok,Slot.ag]
 case v e x=>exact⟨c,h,rfl⟩
 case ref=>rw[h.2];exact⟨h.1,rfl⟩
 case ptr=>rw[h.2];exact⟨h.1,rfl⟩
 case dw=>rw[h.2];exact⟨h.1,rfl⟩
 case el=>rw[h.2];exact⟨h.1,rfl⟩
 case r8=>rw[h.2];exact⟨h.1,rfl⟩
 case ln=>rw[h.2];exact⟨h.1,rfl⟩
 case sub=>obtain⟨z,A,B,C,D,E⟩:=h;rw[E];exact⟨z,A,B,C,D,rfl⟩
 case XR=>obtain⟨b,F,G,h,u⟩:=h;rw[h];exact⟨b,F,G,rfl,u⟩
 case ZJ=>obtain⟨vs,h,u⟩:=h;rw[h];exact⟨vs,rfl,u⟩
 case top=>rw[h];rfl
def Slot.plain:Slot->Bool
 | .agg _=>false
 | .WC _=>false
 | .top=>false
 |_=>true
theorem qV{s:Slot}{v:Value}(hp:s.plain=true)(h:s.ok ρ S w v):s.YW ρ S w v.cells.toList:=by
 cases s<;>simp only[Slot.plain,O2] at hp<;>simp only[Slot.ok] at h<;>simp only[Slot.YW]
 case v e x=>
  obtain⟨H,z,rfl⟩:=h;unfold Wr.pk;cases ha:e.agg with
  |true=>simpa[Value.cells] using z
  |false=>
   have B:=e.len z;rw[e.one ha] at B;obtain⟨u,rfl⟩:=aCf.1 B;have:=Rc (e.cell z u (by simp));simp[this,z]
 case ref i=>
  obtain⟨⟨a,l,c,z⟩|⟨a,z⟩,rfl⟩:=h
  ·exact⟨.inl ⟨a,l,c,z⟩,by simp[z,Value.cells]⟩
  ·exact⟨.inr ⟨a,z⟩,by simp[z,Value.cells]⟩
 case ptr i A=>obtain⟨⟨b,z⟩,rfl⟩:=h;exact⟨⟨b,z⟩,by simp[z,Cv,Value.cells]⟩
 case dw i A k n=>obtain⟨⟨b,z⟩,rfl⟩:=h;exact⟨⟨b,z⟩,by simp[z,Cv,Value.cells]⟩
 case el i k n A=>obtain⟨⟨b,o,l,c,z⟩,rfl⟩:=h;exact⟨⟨b,o,l,c,z⟩,by simp[z,Lq,Value.cells]⟩
 case r8 i A lo n cap=>obtain⟨⟨b,z⟩,rfl⟩:=h;exact⟨⟨b,z⟩,by simp[z,EX,Value.cells]⟩
 case ln i A n cap=>obtain⟨⟨b,o,l,c,z⟩,rfl⟩:=h;exact⟨⟨b,o,l,c,z⟩,by simp[z,EY,Value.cells]⟩
 case sub i A n=>obtain⟨⟨a,l,c,z⟩,C,D,E,F,rfl⟩:=h;exact⟨⟨a,l,c,z⟩,C,D,E,F,by rw[z];cases a<;>simp[Tj,Value.cells]⟩
 case XR e x=>obtain⟨b,A,G,rfl,z⟩:=h;exact⟨b,A,G,rfl,z⟩
 case ZJ g cap=>obtain⟨vs,rfl,z⟩:=h;exact⟨vs,rfl,z⟩
def nI:List Slot->Nat->Option Slot
 | [],_=>none
 |s::r,off=>bif Nat.beq off 0 then some s else bif Nat.ble s.sz off then nI r (off - s.sz) else none
def nV:List Slot->Nat->Slot->List Slot
 | [],_,_=>[]
 |s::r,off,h=>bif Nat.beq off 0 then h::r else s::nV r (off - s.sz) h
theorem uZ:∀{l:List Slot} {off:Nat} {s:Slot} {cs:List Value},nI l off=some s->bM ρ S w l cs->
  ∃a c d,cs=a++(c++d)/\a.length=off/\s.YW ρ S w c/\∀s' c',s'.YW ρ S w c'->bM ρ S w (nV l off s') (a++(c'++d))
 | [],_,_,_,h,_=>by simp[nI] at h
 |t::r,off,s,cs,h,k=>by
  simp only[bM] at k;obtain⟨c,d,rfl,z,B⟩:=k;simp only[nI] at h;cases hb:Nat.beq off 0 with
  |true=>
   rw[hb] at h;simp at h;subst h;have:=s8 hb;subst this;exact⟨[],c,d,rfl,rfl,z,fun s' c' u=>by simp only[nV,Y7];exact⟨c',d,rfl,u,B⟩⟩
  |false=>
   rw[hb] at h;simp only[pF] at h;cases hle:Nat.ble t.sz off with
   |false=>rw[hle] at h;simp at h
   |true=>
    rw[hle] at h;have I:=w7 hle;obtain⟨C,c',D,E,F,G,H⟩:=uZ (l:=r) (by simpa using h) B;refine⟨c++C,c',D,by rw[E,A8],by rw[sM,nL z,F];omega,G,fun s' A u=>?_⟩;simp only[nV,hb,pF,bM];exact⟨c,C++(A++D),by rw[A8],z,H s' A u⟩
def K4{α:Type}(l:List Slot)(e:Wr α)(x:α):Prop:=∀ρ S w cs,bM ρ S w l cs↔e.ok x S w cs
theorem K4.one{α:Type}(e:Wr α)(x:α):K4 [.v e x] e x:=by
 intro ρ S w cs;simp only[bM,Slot.YW];constructor
 ·rintro⟨c,d,rfl,h,rfl⟩;simpa using h
 ·intro h;exact⟨cs,[],by simp,h,rfl⟩
theorem xJ{l l':List Slot}{ρ S w}:∀{cs},bM ρ S w (l++l') cs↔∃c d,cs=c++d/\bM ρ S w l c/\bM ρ S w l' d:=by
 induction l with
 |nil=>
  intro cs;simp only[Y7,bM];constructor
  ·intro h;exact⟨[],cs,rfl,rfl,h⟩
  ·rintro⟨c,d,rfl,rfl,h⟩;simpa using h
 |cons t l D=>
  intro cs;simp only[ek,bM,D];constructor
  ·rintro⟨c,d,rfl,z,u,C,rfl,A,B⟩;exact⟨c++u,C,by simp,⟨c,u,rfl,z,A⟩,B⟩
  ·rintro⟨_,d,rfl,⟨c,u,rfl,z,A⟩,B⟩;exact⟨c,u++d,by simp,z,u,d,rfl,A,B⟩
theorem K4.pr{α β:Type}{l l':List Slot}{a:Wr α}{b:Wr β}{x:α×β}(h:K4 l a x.1)(h':K4 l' b x.2):K4 (l++l') (Wr.pr a b) x:=by
 intro ρ S w cs;rw[xJ];constructor
 ·rintro⟨c,d,rfl,u,z⟩;exact⟨c,d,rfl,(h ρ S w c).1 u,(h' ρ S w d).1 z⟩
 ·rintro⟨c,d,rfl,u,z⟩;exact⟨c,d,rfl,(h ρ S w c).2 u,(h' ρ S w d).2 z⟩
theorem K4.H0{α:Type}{l:List Slot}{a:Wr α}{x:α}(h:K4 l a x):K4 l (Wr.H0 a) x:=h
end
end Go.Sw
namespace Go.Sw
open Go Go.RowKit
theorem FE{ρ:Nat->LV}{S:Nat->Prop}{w w':World}{v:Value}{i:Nat}{en:VH}{s:Slot}(u:LV)(hb:Below w.heap.size w w')
  (u9:en.YF.all (fun j=> !Nat.beq j i)=true)
  (fq:∀b,qS u b->w.heap.size<=b/\b<w'.heap.size)
  (F5:∀S' ρ',(∀k,k<w.heap.size->S' k->S k)->mM ρ ρ' en.YF->en.ok ρ' S' w' u)
  (hs:∀S' ρ',(∀k,k<w.heap.size->S' k->S k)->(ρ' i).v=u.v->(∀j,j≠i->ρ' j=ρ j)->s.ok ρ' S' w' v):XJ ρ S w s [(i,en)] v w':=by
 let ρ':Nat->LV:=fun j=>if j=i then u else ρ j
 have B:ρ' i=u:=WJ rfl;have C:∀j,j≠i->ρ' j=ρ j:=fun j h=>WA h;have A:∀j z,aX [(i,en)] j=some z->j=i/\z=en:=by
  intro j z h;simp only[aX] at h;cases hb:Nat.beq i j with
  |true=>have:=s8 hb;subst this;rw[hb] at h;simp at h;exact⟨rfl,h.symm⟩
  |false=>rw[hb] at h;simp at h
 have D:∀k,k<w.heap.size->Un S ρ' [(i,en)] k->S k:=by
  rintro k M (h |⟨j,z,L,F⟩)
  ·exact h
  ·obtain⟨rfl,rfl⟩:=A j z L;rw[B] at F;have:=(fq k F).1;omega
 refine⟨ρ',fun j h=>C j (fun e=>by subst e;simp[aX] at h),hb,hs _ _ D (congrArg LV.v B) C,⟨fun j z h=>?_,fun j z b h E=>?_,fun j k z G b h H _ _=>?_⟩⟩
 ·obtain⟨rfl,rfl⟩:=A j z h;rw[B];refine F5 _ _ D fun I K=>congrArg LV.v (C I fun e=>?_);subst e;have:=j4.1 u9 _ K;simp at this
 ·obtain⟨rfl,rfl⟩:=A j z h;rw[B] at E;exact fq b E
 ·rw[(A j z h).1,(A k G H).1]
theorem zO{ρ:Nat->LV}{S:Nat->Prop}{w w':World}{v:Value}{i:Nat}{en:VH}{s:Slot}(u:Value)(hb:Below w.heap.size w w')
  (u9:en.YF.all (fun j=> !Nat.beq j i)=true)
  (fq:∀b,YN u=some b->w.heap.size<=b/\b<w'.heap.size)
  (F5:∀S' ρ',(∀k,k<w.heap.size->S' k->S k)->mM ρ ρ' en.YF->en.ok ρ' S' w' (.of u))
  (hs:∀S' ρ',(∀k,k<w.heap.size->S' k->S k)->(ρ' i).v=u->(∀j,j≠i->ρ' j=ρ j)->s.ok ρ' S' w' v):XJ ρ S w s [(i,en)] v w':=
 FE (.of u) hb u9 (fun b h=>fq b (pD.1 h)) F5 hs
theorem lF(w:World)(o:Obj):Below w.heap.size w (w.alloc o):=(Below.refl _ _).alloc (YO _) o
theorem Re{S S':Nat->Prop}{w w':World}(hb:Below w.heap.size w w')(h:∀k,k<w.heap.size->S' k->S k):Ext S S' w w':=rJ hb h
theorem XJ.box{ρ:Nat->LV}{S:Nat->Prop}{w:World}{T:TypeId}{l:List Slot}{cs:List Value}(i:Nat)(hl:bM ρ S w l cs)
  (u9:(dU l).all (fun j=> !Nat.beq j i)=true):XJ ρ S w (.ptr i 0) [(i,.box T l)] (.pointer (some ⟨w.heap.size,0,none⟩)) (w.alloc (.cells cs.toArray T)):=by
 refine zO (.pointer (some ⟨w.heap.size,0,none⟩)) (lF _ _) u9 ?_ ?_ ?_
 ·intro b u;simp[YN] at u;subst u;exact⟨YO _,by simp⟩
 ·intro z ρ' h ha;exact⟨⟨_,cs,rfl,heap_alloc_new _ _,fO l cs hl (Re (lF _ _) h) ha⟩,fun _ h=>by cases h⟩
 ·intro z ρ' _ hi _;simp only[Slot.ok];exact⟨⟨_,hi⟩,by rw[hi];rfl⟩
section
variable {F:WV}{σ:AS}{pb:Option Nat}{s:Slot}{d:Option Tmp}{ty:TypeId}{p:String}{af:Array Edge}{gd:Option (Nat×Bool)}{x y c:Operand}
theorem xK(P:Program)(w:World)(T:TypeId)(v:Value):(newVar T v).run P w= .ok ⟨w.heap.size,0,none⟩ (w.alloc (.cells v.cells T)):=by
 simp[newVar,newRow]
theorem cJ{α:Type}{e:Wr α}{z:α}{T:TypeId}{l:List Slot}(i:Nat)(hx:dD σ.g x=some (.v e z))(hl:K4 l e z)(u9:(dU l).all (fun j=> !Nat.beq j i)=true):
  JO F ⟨d,.box T x,ty,p,af,gd⟩ σ (.ptr i 0) [(i,.box T l)]:=by
 intro ρ S a w K;have h:=qV (s:= .v e z) rfl (K.slot x (by simp[Op.operands]) _ hx);simp only[Slot.YW] at h;refine VJ.value (w':=w.alloc (.cells (a.eval x).cells.toList.toArray T)) (v:= .pointer (some ⟨w.heap.size,0,none⟩)) (by simp[execOp,Instr.box,xK]) ?_;exact XJ.box i ((hl ρ S w _).2 h) u9
theorem zP{T:TypeId}{l:List Slot}(i:Nat)(hx:dD σ.g x=some (.agg l))(u9:(dU l).all (fun j=> !Nat.beq j i)=true):
  JO F ⟨d,.box T x,ty,p,af,gd⟩ σ (.ptr i 0) [(i,.box T l)]:=by
 intro ρ S a w K;have h:=K.slot x (by simp[Op.operands]) _ hx;simp only[Slot.ok] at h;obtain⟨u,z,A⟩:=h;refine VJ.value (w':=w.alloc (.cells u.toArray T)) (v:= .pointer (some ⟨w.heap.size,0,none⟩)) (by simp[execOp,Instr.box,xK,z,Value.cells]) ?_;exact XJ.box i A u9
def Zr(cs:List Value)(l:List Slot):Prop:=∀ρ S w,bM ρ S w l cs
theorem Zr.nil:Zr [] []:=fun _ _ _=>rfl
theorem Zr.cons{cs:List Value}{l:List Slot}{α:Type}{e:Wr α}{z:α}{c:List Value}(h:∀S w,e.ok z S w c)(k:Zr cs l):Zr (c++cs) (.v e z::l):=fun ρ S w=>by
 simp only[bM];exact⟨c,cs,rfl,by simp only[Slot.YW];exact h S w,k ρ S w⟩
theorem Z.int(k:IntKind):∀S w,(Wr.int k).ok 0 S w [.int k 0]:=fun _ _=>⟨rfl,by cases k<;>decide⟩
theorem Z.bool:∀S w,Wr.bool.ok false S w [.bool false]:=fun _ _=>rfl
theorem Z.sl{α:Type}(e:Wr α):∀S w,(Wr.sl e).ok [] S w [.slice none 0 0]:=fun _ _=>⟨none,0,rfl,by simp,.inl rfl⟩
theorem Z.err(T:TypeId):∀S w,(Wr.err T).ok none S w [.nilIface]:=fun _ _=>rfl
theorem Z.arr{α:Type}{e:Wr α}{z:α}{c:List Value}(m:Nat)(h:∀S w,e.ok z S w c):∀S w,(Wr.arr m e).ok (List.replicate m z) S w (List.replicate m c).flatten:=by
 intro S w;refine⟨by simp,?_⟩
 induction m with
 |zero=>simp[Wr.YU]
 |succ m u=>rw[aDr,aDr,aC0];exact⟨c,_,rfl,h S w,u⟩
theorem Z.pr{α β:Type}{a:Wr α}{b:Wr β}{x:α}{y:β}{c d:List Value}(h:∀S w,a.ok x S w c)(k:∀S w,b.ok y S w d):∀S w,(Wr.pr a b).ok (x,y) S w (c++d):=fun S w=>⟨c,d,rfl,h S w,k S w⟩
theorem aN{T:TypeId}{z:Value}{cs:List Value}{l:List Slot}(i:Nat)(hz:∀w,(zeroValue T).run F.P w= .ok z w)(hc:z.cells=cs.toArray)(hl:Zr cs l)(u9:(dU l).all (fun j=> !Nat.beq j i)=true):
  JO F ⟨d,.alloc T,ty,p,af,gd⟩ σ (.ptr i 0) [(i,.box T l)]:=by
 intro ρ S a w K;refine VJ.value (w':=w.alloc (.cells cs.toArray T)) (v:= .pointer (some ⟨w.heap.size,0,none⟩)) (by simp[execOp,Instr.alloc,hz,xK,hc]) ?_;exact XJ.box i (hl ρ S w) u9
theorem zQ{xs:Array Operand}{ρ:Nat->LV}{S a w}(K:m7 σ xs ρ S a w)(hm:x∈xs){i off:Nat}{T:TypeId}{l:List Slot}(hx:dD σ.g x=some (.ptr i off))(he:aX σ.d i=some (.box T l pb)):
  ∃b cs,(ρ i).v= .pointer (some ⟨b,0,none⟩)/\a.eval x= .pointer (some ⟨b,off,none⟩)/\w.heap[b]? =some (.cells cs.toArray T (0,0))/\bM ρ S w l cs:=by
 have h:=K.slot x hm _ hx;simp only[Slot.ok] at h;obtain⟨⟨b,u⟩,z⟩:=h;have:=(K.y9 x hm _ hx i (by simp[Slot.YF]) _ he).1;rw[u] at z;obtain⟨⟨A,cs,B,C,D⟩,_⟩:=this;have:A=b:=by rw[u] at B;simpa using B.symm
 subst this;exact⟨A,cs,u,z,C,D⟩
theorem aJ{T U:TypeId}{l:List Slot}{i off:Nat}(hx:dD σ.g x=some (.ptr i off))(he:aX σ.d i=some (.box T l pb))(ho:nI l off=some s)
  (hA:∀w,(isAgg U).run F.P w= .ok s.ag w) (hS:∀w,(sizeOf U).run F.P w= .ok s.sz w):JO F ⟨d,.load U x,ty,p,af,gd⟩ σ s []:=by
 intro ρ S a w K;obtain⟨b,G,z,C,D,E⟩:=zQ K (by simp[Op.operands]) hx he;obtain⟨A,c,H,rfl,rfl,B,_⟩:=uZ ho E;have h:VQ w b A.length c:=by have:=(VQ.of_heap D).sub;simpa using this
 have u:=nL B;refine VJ.value (w':=w) (v:=if s.ag then .agg c.toArray else c.headD undef) ?_ (XJ.same (Zk B));have:(loadVar U ⟨b,A.length,none⟩).run F.P w= .ok (if s.ag then .agg c.toArray else c.headD undef) w:=by
  unfold loadVar;simp only[Sem.run_bind,hA,Result.andThen_ok];cases ha:s.ag with
  |true=>
   simp only[ZU,Sem.run_bind,hS,Result.andThen_ok];rw[<-u,run_loadCells_list w _ c h.cell];simp
  |false=>
   have z:c.length=1:=by
    rw[u];cases s<;>simp only[Slot.ag,Slot.sz] at ha ⊢;exact Wr.one _ ha
   obtain⟨v,rfl⟩:=aCf.1 z;have:=h.cell 0 v rfl;simp[Addr.add] at this;simp[this]
 simp[execOp,C,Instr.loadAt,Instr.sureAddr,this]
theorem aT{α:Type}{e:Wr α}{z:α}{T U:TypeId}{l:List Slot}{i:Nat}(hx:dD σ.g x=some (.ptr i 0))(he:aX σ.d i=some (.box T l pb))(hl:K4 l e z)
  (hA:∀w,(isAgg U).run F.P w= .ok e.agg w) (hS:∀w,(sizeOf U).run F.P w= .ok e.n w):JO F ⟨d,.load U x,ty,p,af,gd⟩ σ (.v e z) []:=by
 intro ρ S a w K;obtain⟨b,h,D,A,B,C⟩:=zQ K (by simp[Op.operands]) hx he;have u:=(hl ρ S w h).1 C;refine VJ.value (w':=w) (v:=e.pk h) ?_ (XJ.same (by simp only[Slot.ok];exact⟨h,u,rfl⟩));have:=Fu (P:=F.P) (VQ.of_heap B) u hA hS;simp[execOp,A,Instr.loadAt,Instr.sureAddr,this]
theorem hC{T U:TypeId}{l:List Slot}{i n:Nat}(hx:dD σ.g x=some (.ptr i 0))(he:aX σ.d i=some (.box T l pb))(hn:(l.map Slot.sz).sum=n)
  (hA:∀w,(isAgg U).run F.P w= .ok true w) (hS:∀w,(sizeOf U).run F.P w= .ok n w):JO F ⟨d,.load U x,ty,p,af,gd⟩ σ (.agg l) []:=by
 intro ρ S a w K;obtain⟨b,h,G,B,z,u⟩:=zQ K (by simp[Op.operands]) hx he;have A:h.length=n:=by
  rw[<-hn];clear hn hS hx he z
  induction l generalizing h with
  |nil=>simp only[bM] at u;simp[u]
  |cons t l E=>
   simp only[bM] at u;obtain⟨c,d,rfl,C,D⟩:=u;rw[sM,nL C,E d D];simp
 refine VJ.value (w':=w) (v:= .agg h.toArray) ?_ (XJ.same (by simp only[Slot.ok];exact⟨h,rfl,u⟩));have:(loadVar U ⟨b,0,none⟩).run F.P w= .ok (.agg h.toArray) w:=by
  unfold loadVar;simp only[Sem.run_bind,hA,Result.andThen_ok,ZU,hS];rw[<-A,run_loadCells_list w _ h (VQ.of_heap z).cell];simp
 simp[execOp,B,Instr.loadAt,Instr.sureAddr,this]
theorem bO{α:Type}{e:Wr α}{z:α}{U:TypeId}(hx:dD σ.g x=some (.XR e z))(hA:∀w,(isAgg U).run F.P w= .ok e.agg w)(hS:∀w,(sizeOf U).run F.P w= .ok e.n w):
  JO F ⟨d,.load U x,ty,p,af,gd⟩ σ (.v e z) []:=by
 intro ρ S a w K;have h:=K.slot x (by simp[Op.operands]) _ hx;simp only[Slot.ok] at h;obtain⟨b,D,u,B,_,_,C,A⟩:=h;refine VJ.value (w':=w) (v:=e.pk u) ?_ (XJ.same (by simp only[Slot.ok];exact⟨u,A,rfl⟩));have:=Fu (P:=F.P) C A hA hS;simp[execOp,B,Instr.loadAt,Instr.sureAddr,this]
theorem Cx{P:Program}{w:World}{U:TypeId}{fs:Array Field}{n b off m:Nat}{fl:Field}(hU:∀w,(underlying U).run P w= .ok (.struct fs) w)(hf:fs[n]? =some fl)(hm:∀w,(sizeOf fl.type).run P w= .ok m w)(YS:Nat.beq m 0=false):
  (Instr.fieldAt U (.pointer (some ⟨b,off,none⟩)) n).run P w= .ok (.pointer (some ⟨b,off+fl.offset,none⟩)) w:=by
 have u:m≠0:=fun e=>by subst e;simp at YS
 have:Addr.add ⟨b,off,none⟩ fl.offset=⟨b,off+fl.offset,none⟩:=by
  unfold Addr.add;split
  ·rename_i h;rw[h];rfl
  ·rfl
 simp[Instr.fieldAt,hU,hf,Instr.sureAddr,fieldPlace,hm,u,this]
theorem aB(o:Nat){U:TypeId}{fs:Array Field}{n i off m:Nat}{fl:Field}(hx:dD σ.g x=some (.ptr i off))(hU:∀w,(underlying U).run F.P w= .ok (.struct fs) w)(hf:fs[n]? =some fl)(hm:∀w,(sizeOf fl.type).run F.P w= .ok m w)(YS:Nat.beq m 0=false)(ho:Nat.beq (off+fl.offset) o=true):
  JO F ⟨d,.fieldAddr U x n,ty,p,af,gd⟩ σ (.ptr i o) []:=by
 have ho:=s8 ho;subst ho;intro ρ S a w K;have h:=K.slot x (by simp[Op.operands]) _ hx;simp only[Slot.ok] at h;obtain⟨⟨b,u⟩,z⟩:=h;rw[u] at z;refine VJ.value (w':=w) (v:= .pointer (some ⟨b,off+fl.offset,none⟩)) ?_ (XJ.same (by simp only[Slot.ok];exact⟨⟨b,u⟩,by rw[u];rfl⟩));have:=Cx (P:=F.P) (w:=w) (b:=b) (off:=off) hU hf hm YS;simp only[execOp,z,Cv];simp[this]
def ui{α β:Type}(e:Wr α)(z:α)(off:Nat)(e':Wr β)(z':β):Prop:=∀S w cs,e.ok z S w cs->∃a c d,cs=a++(c++d)/\a.length=off/\e'.ok z' S w c
theorem ui.here{α:Type}{e:Wr α}{z:α}:ui e z 0 e z:=fun _ _ u h=>⟨[],u,[],by simp,rfl,h⟩
theorem ui.fst{α β γ:Type}{a:Wr α}{b:Wr β}{e':Wr γ}{z:α×β}{z':γ}{off:Nat}(h:ui a z.1 off e' z'):ui (Wr.pr a b) z off e' z':=by
 rintro S w F ⟨c,d,rfl,E,G⟩;obtain⟨u,A,B,rfl,C,D⟩:=h S w c E;exact⟨u,A,B++d,by simp,C,D⟩
theorem ui.snd{α β γ:Type}{a:Wr α}{b:Wr β}{e':Wr γ}{z:α×β}{z':γ}{off:Nat}(h:ui b z.2 off e' z'):ui (Wr.pr a b) z (a.n+off) e' z':=by
 rintro S w G ⟨c,d,rfl,E,F⟩;obtain⟨u,A,B,rfl,C,D⟩:=h S w d F;exact⟨c++u,A,B,by simp,by rw[sM,a.len E,C],D⟩
theorem cG{α β:Type}{e:Wr α}{z:α}{e':Wr β}{z':β}{U:TypeId}{fs:Array Field}{n m off:Nat}{fl:Field}(hx:dD σ.g x=some (.XR e z))(hU:∀w,(underlying U).run F.P w= .ok (.struct fs) w)(hf:fs[n]? =some fl)
  (hm:∀w,(sizeOf fl.type).run F.P w= .ok m w) (YS:Nat.beq m 0=false) (hp:ui e z off e' z') (fk:off=fl.offset):JO F ⟨d,.fieldAddr U x n,ty,p,af,gd⟩ σ (.XR e' z') []:=by
 intro ρ S a w K;have h:=K.slot x (by simp[Op.operands]) _ hx;simp only[Slot.ok] at h;obtain⟨b,o,u,A,B,C,D,E⟩:=h;obtain⟨L,G,M,rfl,H,I⟩:=hp S w u E
 refine VJ.value (w':=w) (v:= .pointer (some ⟨b,o+fl.offset,none⟩)) ?_ (XJ.same (by
  simp only[Slot.ok];exact⟨b,_,G,rfl,B,C,by rw[<-fk,<-H];exact D.sub,I⟩))
 have:=Cx (P:=F.P) (w:=w) (b:=b) (off:=o) hU hf hm YS;simp only[execOp,A];simp[this]
def idx{α:Type}(xs:List α)(n:Int):Option α:=if 0<=n then xs[n.toNat]? else none
theorem dG{α:Type}{xs:List α}{n:Int}{y:α}(h:idx xs n=some y):0<=n/\n.toNat<xs.length/\xs[n.toNat]? =some y:=by
 unfold idx at h;split at h
 ·rename_i z;refine⟨z,?_,h⟩;rcases K3 n.toNat xs.length with u | u
  ·exact u
  ·simp[X3 u] at h
 ·cases h
theorem Cy{P:Program}{w:World}{U E:TypeId}{m b off len cap:Nat}{k:IntKind}{n:Int}(hU:∀w,(underlying U).run P w= .ok (.slice E) w)(hE:∀w,(sizeOf E).run P w= .ok m w)(h0:0<=n)(h1:n<len):
  (Instr.indexAt U (.slice (some ⟨b,off,none⟩) len cap) (.int k n)).run P w= .ok (.pointer (some ⟨b,off+n.toNat*m,none⟩)) w:=by
 have:Addr.add ⟨b,off,none⟩ (n.toNat*m)=⟨b,off+n.toNat*m,none⟩:=by
  unfold Addr.add;split
  ·rename_i h;rw[h];rfl
  ·rfl
 simp[Instr.indexAt,asIntOf,hU,h0,h1,hE,this]
theorem gP{α:Type}{e:Wr α}{xs:List α}{z:α}{U E:TypeId}{k:IntKind}{n:Int}(hz:Sw.idx xs n=some z)(hx:dD σ.g x=some (.v (Wr.sl e) xs))(hy:dD σ.g y=some (.v (Wr.int k) n))
  (hU:∀w,(underlying U).run F.P w= .ok (.slice E) w) (hE:∀w,(sizeOf E).run F.P w= .ok e.n w):JO F ⟨d,.indexAddr U x y,ty,p,af,gd⟩ σ (.XR e z) []:=by
 intro ρ S a w K;have h:=K.slot x (by simp[Op.operands]) _ hx;have A:=(fQ K (x:=y) (by simp[Op.operands]) hy).1;simp only[Slot.ok] at h;obtain⟨Q,cap,B,_,u⟩:=sG.1 h;obtain⟨C,D,G⟩:=dG hz;rcases u with u |⟨b,off,V,rfl,L,M,N,O⟩
 ·subst u;simp at D
 obtain⟨R,c,T,rfl,H,I,_⟩:=qT O G;refine VJ.value (w':=w) (v:= .pointer (some ⟨b,off+n.toNat*e.n,none⟩)) ?_ (XJ.same (by simp only[Slot.ok];exact⟨b,_,c,rfl,L,M,by rw[<-H];exact N.sub,I⟩));have:=Cy (P:=F.P) (w:=w) (b:=b) (off:=off) (cap:=cap) (k:=k) hU hE C (by omega:n<(xs.length:Int));simp only[execOp,B,A];simp[this]
theorem Cz{n:Nat}(h:n<=9223372036854775807):Cw .i64 (n:Int):=by unfold Cw;simp only[IntKind.min,IntKind.max,IntKind.signed,IntKind.bits];simp;omega
theorem Gv{P:Program}{w:World}{U E:TypeId}{a:Option Addr}{n cap:Nat}{tt:TypeId}(hU:∀w,(underlying U).run P w= .ok (.slice E) w):(Builtin.len_ #[U] tt #[.slice a n cap]).run P w= .ok (.int .i64 n) w:=by
 simp[Builtin.len_,hU,goInt]
theorem tD{α:Type}{e:Wr α}{xs:List α}{U E:TypeId}(hx:dD σ.g x=some (.v (Wr.sl e) xs))(hU:∀w,(underlying U).run F.P w= .ok (.slice E) w):
  JO F ⟨d,.call ⟨.builtin .len,#[x],#[U]⟩,ty,p,af,gd⟩ σ (.v (Wr.int .i64) xs.length) []:=by
 intro ρ S a w K;have h:=K.slot x (by simp[Op.operands,Call.operands]) _ hx;simp only[Slot.ok] at h;obtain⟨A,B,u,z,_⟩:=sG.1 h;refine VJ.value (w':=w) (v:= .int .i64 xs.length) ?_ (XJ.same (tC (Cz (by have:=z.2;omega)) ρ S w));simp[execOp,resolve,invoke,builtin,u,Gv hU]
theorem yO{xs:Array Operand}{ρ:Nat->LV}{S a w}(K:m7 σ xs ρ S a w)(hm:x∈xs){i:Nat}{en:VH}(hx:dD σ.g x=some (.ref i))(he:aX σ.d i=some en):
  a.eval x=(ρ i).v/\en.ok ρ S w (ρ i)/\∀b,qS (ρ i) b->S b/\b<w.heap.size:=by
 have h:=K.slot x hm _ hx;simp only[Slot.ok] at h;exact⟨h.2,K.y9 x hm _ hx i (by simp[Slot.YF]) _ he⟩
theorem Rf{α:Type}{e:Wr α}{xs:List α}{T U E:TypeId}{i:Nat}(hx:dD σ.g x=some (.ref i))(he:aX σ.d i=some (.arr T e xs))(hU:∀w,(underlying U).run F.P w= .ok (.slice E) w):
  JO F ⟨d,.call ⟨.builtin .len,#[x],#[U]⟩,ty,p,af,gd⟩ σ (.v (Wr.int .i64) xs.length) []:=by
 intro ρ S a w K;obtain⟨u,h,_⟩:=yO K (x:=x) (by simp[Op.operands,Call.operands]) hx he;rcases h with⟨rfl,h⟩|⟨b,z,A,B,C,h,_,_,_,_,D⟩
 ·refine VJ.value (w':=w) (v:= .int .i64 0) ?_ (XJ.same (tC (Cz (n:=0) (by simp)) ρ S w));simp[execOp,resolve,invoke,builtin,u,h,Gv hU]
 ·refine VJ.value (w':=w) (v:= .int .i64 xs.length) ?_ (XJ.same (tC (Cz (by omega)) ρ S w));simp[execOp,resolve,invoke,builtin,u,h,Gv hU]
end
end Go.Sw
namespace Go.Sw
open Go Go.RowKit
mutual
def Slot.map(r:Nat->Nat):Slot->Slot
 | .v e x=> .v e x
 | .ref i=> .ref (r i)
 | .ptr i off=> .ptr (r i) off
 | .dw i off k n=> .dw (r i) off k n
 | .el i k n off=> .el (r i) k n off
 | .r8 i off h n cap=> .r8 (r i) off h n cap
 | .ln i off n cap=> .ln (r i) off n cap
 | .sub i off n=> .sub (r i) off n
 | .XR e x=> .XR e x
 | .ZJ g cap=> .ZJ g (fG r cap)
 | .top=> .top
 | .agg l=> .agg (fG r l)
 | .WC l=> .WC (fG r l)
def fG(r:Nat->Nat):List Slot->List Slot
 | []=>[]
 |s::l=>s.map r::fG r l
end
def VH.map(r:Nat->Nat):VH->VH
 | .box T l h=> .box T (fG r l) h
 | .arr T e xs=> .arr T e xs
 | .mp e f m=> .mp e f m
 | .dp D x u=> .dp D x (u.map r)
section
variable {ρ:Nat->LV}{S:Nat->Prop}{w:World}{r:Nat->Nat}
mutual
theorem Zl:∀(s:Slot) (cs:List Value),(s.map r).YW ρ S w cs↔s.YW (fun i=>ρ (r i)) S w cs
 | .v e x,cs=>by simp only[Slot.map,Slot.YW]
 | .ref i,cs=>by simp only[Slot.map,Slot.YW]
 | .ptr i off,cs=>by simp only[Slot.map,Slot.YW]
 | .dw i off k n,cs=>by simp only[Slot.map,Slot.YW]
 | .el i k n off,cs=>by simp only[Slot.map,Slot.YW]
 | .r8 i off h n cap,cs=>by simp only[Slot.map,Slot.YW]
 | .ln i off n cap,cs=>by simp only[Slot.map,Slot.YW]
 | .sub i off n,cs=>by simp only[Slot.map,Slot.YW]
 | .XR e x,cs=>by simp only[Slot.map,Slot.YW]
 | .ZJ g cap,cs=>by simp only[Slot.map,Slot.YW,Kz cap]
 | .top,cs=>by simp only[Slot.map,Slot.YW]
 | .agg l,cs=>by simp only[Slot.map,Slot.YW]
 | .WC l,cs=>by simp only[Slot.map,Slot.YW]
theorem Kz:∀(l:List Slot) (vs:List Value),aW ρ S w (fG r l) vs↔aW (fun i=>ρ (r i)) S w l vs
 | [],vs=>by simp only[fG,aW]
 |s::l,vs=>by simp only[fG,aW,Lw s,Kz l]
theorem Rg:∀(l:List Slot) (vs:List Value),bM ρ S w (fG r l) vs↔bM (fun i=>ρ (r i)) S w l vs
 | [],vs=>by simp only[fG,bM]
 |s::l,vs=>by simp only[fG,bM,Zl s,Rg l]
theorem Lw:∀(s:Slot) (u:Value),(s.map r).ok ρ S w u↔s.ok (fun i=>ρ (r i)) S w u
 | .v e x,h=>by simp only[Slot.map,Slot.ok]
 | .ref i,h=>by simp only[Slot.map,Slot.ok]
 | .ptr i off,h=>by simp only[Slot.map,Slot.ok]
 | .dw i off k n,h=>by simp only[Slot.map,Slot.ok]
 | .el i k n off,h=>by simp only[Slot.map,Slot.ok]
 | .r8 i off z n cap,h=>by simp only[Slot.map,Slot.ok]
 | .ln i off n cap,h=>by simp only[Slot.map,Slot.ok]
 | .sub i off n,h=>by simp only[Slot.map,Slot.ok]
 | .XR e x,h=>by simp only[Slot.map,Slot.ok]
 | .ZJ g cap,h=>by simp only[Slot.map,Slot.ok,Kz cap]
 | .top,h=>by simp only[Slot.map,Slot.ok]
 | .agg l,h=>by simp only[Slot.map,Slot.ok,Rg l]
 | .WC l,h=>by simp only[Slot.map,Slot.ok,Kz l]
end
theorem Gw(en:VH)(u:LV):(en.map r).ok ρ S w u↔en.ok (fun i=>ρ (r i)) S w u:=by
 cases en with
 |box T l h=>simp only[VH.map,VH.ok,Rg]
 |arr T e xs=>simp only[VH.map,VH.ok]
 |mp e f m=>simp only[VH.map,VH.ok]
 |dp D x z=>simp only[VH.map,VH.ok,aEu,Function.comp_def]
end
def Lx(r:Nat->Nat):List (Nat×VH)->List (Nat×VH)
 | []=>[]
 | (i,h)::l=>(r i,h.map r)::Lx r l
theorem xG(k:Nat):∀(l:List (Nat×VH)) (j:Nat) (en:VH),aX (Lx (·+k) l) j=some en->∃i en',j=i+k/\aX l i=some en'/\en=en'.map (·+k)
 | [],j,en,h=>by simp[Lx,aX] at h
 | (i,en')::l,j,en,h=>by
  simp only[Lx,aX] at h;cases hb:Nat.beq (i+k) j with
  |true=>
   have:=s8 hb;rw[hb] at h;simp at h;exact⟨i,en',this.symm,by simp[aX],h.symm⟩
  |false=>
   rw[hb] at h;obtain⟨u,A,z,B,C⟩:=xG k l j en (by simpa using h);refine⟨u,A,z,?_,C⟩;have:Nat.beq i u=false:=by
    cases hc:Nat.beq i u with
    |false=>rfl
    |true=>have:=s8 hc;subst this;subst z;simp at hb
   simp only[aX,this];exact B
theorem xL(k:Nat):∀(l:List (Nat×VH)) (i:Nat) (en:VH),aX l i=some en->aX (Lx (·+k) l) (i+k)=some (en.map (·+k))
 | [],i,en,h=>by simp[aX] at h
 | (u,en')::l,i,en,h=>by
  simp only[aX] at h;simp only[Lx,aX];cases hb:Nat.beq u i with
  |true=>
   have:=s8 hb;subst this;rw[hb] at h;simp at h;subst h;simp
  |false=>
   rw[hb] at h;have z:u≠i:=fun e=>by subst e;simp at hb
   have:Nat.beq (u+k) (i+k)=false:=by
    cases hc:Nat.beq (u+k) (i+k) with
    |false=>rfl
    |true=>have:=s8 hc;omega
   rw[this];exact xL k l i en (by simpa using h)
theorem XJ.shift{ρ:Nat->LV}{S:Nat->Prop}{w w':World}{res:Slot}{new:List (Nat×VH)}{v:Value}(k:Nat)(YK:kY res new=true)(h:XJ ρ S w res new v w'):
  XJ ρ S w (res.map (·+k)) (Lx (·+k) new) v w':=by
 obtain⟨ρ',V,O,P,H⟩:=h;simp only[kY,D1,j4] at YK;let E:Nat->LV:=fun j=>if k<=j/\(aX new (j - k)).isSome=true then ρ' (j - k) else ρ j
 have C:∀i,(aX new i).isSome=true->E (i+k)=ρ' i:=fun i u=>by simp[E,u]
 have L:∀b,Un S E (Lx (·+k) new) b↔Un S ρ' new b:=by
  intro b;constructor
  ·rintro (h |⟨j,A,B,z⟩)
   ·exact .inl h
   ·obtain⟨i,D,rfl,u,_⟩:=xG k new j A B;rw[C i (by rw[u];rfl)] at z;exact .inr ⟨i,D,u,z⟩
  ·rintro (h |⟨i,A,u,z⟩)
   ·exact .inl h
   ·exact .inr ⟨i+k,_,xL k new i A u,by rw[C i (by rw[u];rfl)];exact z⟩
 have I:Ext (Un S ρ' new) (Un S E (Lx (·+k) new)) w' w':=⟨YO _,fun b _ z=>⟨rfl,fun h=>z ((L b).1 h)⟩⟩;refine⟨E,fun j B=>?_,O,?_,⟨fun j A B=>?_,fun j A b B z=>?_,fun j M A D b B N z K=>?_⟩⟩
 ·have:¬(k<=j/\(aX new (j - k)).isSome=true):=by
   rintro⟨T,U⟩;obtain⟨A,Q⟩:=Option.isSome_iff_exists.1 U;have:=xL k new (j - k) A Q;rw[Nat.sub_add_cancel T,B] at this;cases this
  simp only[E,WA this]
 ·rw[Lw];exact Slot.VE res v P I (fun i u=>congrArg LV.v (C i (YK.1 i u)))
 ·obtain⟨i,D,rfl,u,rfl⟩:=xG k new j A B;rw[Gw,C i (by rw[u];rfl)];exact VH.VE (H.own i D u) I (fun F G=>congrArg LV.v (C F (YK.2 _ (mO u) F G))) (fun _ _=>rfl)
 ·obtain⟨i,D,rfl,u,rfl⟩:=xG k new j A B;rw[C i (by rw[u];rfl)] at z;exact H.fresh i D b u z
 ·obtain⟨i,e,rfl,u,rfl⟩:=xG k new j A B;obtain⟨F,R,rfl,G,rfl⟩:=xG k new M D N;rw[C i (by rw[u];rfl)] at z;rw[C F (by rw[G];rfl)] at K;rw[H.inj i F e R b u G z K]
def Frz{α β:Type}(D:DE α)(x:α)(e:Wr β)(z:β):Prop:=∀S S' w u,D.ok x S w u []->Ext S S' w w->(∀b,qS u b->¬S' b)->e.ok z S' w [u.v]/\e.pk [u.v]=u.v
def RI(en en':VH):Prop:=en'.YF=[]/\∀ρ S w u,en.ok ρ S w u->en'.ok ρ S w u
mutual
inductive Z4 (σ:AS) (r:Nat->Nat) (ls:List Nat):Slot->Slot->Prop
 |same {s:Slot}:Z4 σ r ls (s.map r) s
 | K8 {α:Type} {j:Nat} {T:TypeId} {e:Wr α} {xs:List α}:aX σ.d j=some (.arr T e xs)->ls.all (fun i=> !Nat.beq (r i) j)=true->Z4 σ r ls (.ref j) (.v (Wr.sl e) xs)
 |agg {l l':List Slot}:T9 σ r ls l l'->Z4 σ r ls (.agg l) (.agg l')
 |pack {α:Type} {l l':List Slot} {e:Wr α} {z:α}:T9 σ r ls l l'->K4 l' e z->e.agg=true->Z4 σ r ls (.agg l) (.v e z)
 |y6 {α:Type} {j:Nat} {T:TypeId} {l l':List Slot} {pb:Option Nat} {e:Wr α} {z:α}:aX σ.d j=some (.box T l pb)->ls.all (fun i=> !Nat.beq (r i) j)=true->T9 σ r ls l l'->K4 l' e z->Z4 σ r ls (.ptr j 0) (.XR e z)
 | ZJ {g:Nat} {l l':List Slot}:T9 σ r ls l l'->Z4 σ r ls (.ZJ g l) (.ZJ g l')
 |aI5 {α β:Type} {j:Nat} {D:DE α} {x:α} {e:Wr β} {z:β}:aX σ.d j=some (.dp D x [])->ls.all (fun i=> !Nat.beq (r i) j)=true->Frz D x e z->Z4 σ r ls (.ref j) (.v e z)
 |enc {α β:Type} {e:Wr α} {f:Wr β} {x:α} {y:β}:(∀S w cs,e.ok x S w cs->f.ok y S w cs)->(∀cs,e.pk cs=f.pk cs)->Z4 σ r ls (.v e x) (.v f y)
inductive T9 (σ:AS) (r:Nat->Nat) (ls:List Nat):List Slot->List Slot->Prop
 |nil:T9 σ r ls [] []
 |cons {s s':Slot} {l l':List Slot}:Z4 σ r ls s s'->T9 σ r ls l l'->T9 σ r ls (s::l) (s'::l')
end
inductive X6 (σ:AS) (r:Nat->Nat) (ls:List Nat):List (Nat×Slot)->Prop
 |nil:X6 σ r ls []
 |cons {t:Nat} {s s':Slot} {g:List (Nat×Slot)}:lk σ.g t=some s->Z4 σ r ls s s'->X6 σ r ls g->X6 σ r ls ((t,s')::g)
inductive D4 (σ:AS) (r:Nat->Nat) (ls:List Nat):List (Nat×VH)->Prop
 |nil:D4 σ r ls []
 |box {i:Nat} {T:TypeId} {l l':List Slot} {pb:Option Nat} {d:List (Nat×VH)}:aX σ.d (r i)=some (.box T l pb)->T9 σ r ls l l'->D4 σ r ls d->D4 σ r ls ((i,.box T l' pb)::d)
 |aRv {i:Nat} {T:TypeId} {l l':List Slot} {pb:Option Nat} {d:List (Nat×VH)}:aX σ.d (r i)=some (.box T l pb)->T9 σ r ls l l'->D4 σ r ls d->D4 σ r ls ((i,.box T l' none)::d)
 |arr {α:Type} {i:Nat} {T:TypeId} {e:Wr α} {xs:List α} {d:List (Nat×VH)}:aX σ.d (r i)=some (.arr T e xs)->D4 σ r ls d->D4 σ r ls ((i,.arr T e xs)::d)
 |mp {α β:Type} {i:Nat} {e:Wr α} {f:Wr β} {m:List (α×β)} {d:List (Nat×VH)}:aX σ.d (r i)=some (.mp e f m)->D4 σ r ls d->D4 σ r ls ((i,.mp e f m)::d)
 |dp {α:Type} {i:Nat} {D:DE α} {x:α} {l:List Nat} {d:List (Nat×VH)}:aX σ.d (r i)=some (.dp D x (l.map r))->D4 σ r ls d->D4 σ r ls ((i,.dp D x l)::d)
 |cv {i:Nat} {en en':VH} {d:List (Nat×VH)}:aX σ.d (r i)=some en->RI en en'->D4 σ r ls d->D4 σ r ls ((i,en')::d)
def Rh(r:Nat->Nat):List Nat->Bool
 | []=>true
 |i::l=>l.all (fun j=> !Nat.beq (r j) (r i)) && Rh r l
theorem Pk{r:Nat->Nat}:∀{l:List Nat},Rh r l=true->∀i∈l,∀j∈l,r i=r j->i=j
 | [],_,i,A,_,_,_=>by simp at A
 |x::l,h,i,A,j,E,B=>by
  simp only[Rh,D1,j4] at h;obtain⟨C,F⟩:=h;rcases m5.1 A with e | D
  ·rcases m5.1 E with u | z
   ·rw[e,u]
   ·have:=C j z;rw[<-e,B] at this;simp at this
  ·rcases m5.1 E with u | z
   ·have:=C i D;rw[<-u,B] at this;simp at this
   ·exact Pk F i D j z B
section
variable {F:WV}{σ:AS}{pb:Option Nat}{r:Nat->Nat}{ls:List Nat}{ρ:Nat->LV}{w:World}{d':List (Nat×VH)}
theorem Ri{α:Type}{e:Wr α}{xs:List α}{T:TypeId}{ρ S S' w u}(h:(VH.arr T e xs).ok ρ S w u)(hE:Ext S S' w w)(hb:∀b,qS u b->¬S' b):(Wr.sl e).ok xs S' w [u.v]:=by
 rcases h with⟨rfl,z⟩|⟨b,B,F,C,G,z,A,D,E,H,I⟩<;>rw[z]
 ·exact⟨none,0,rfl,by simp,.inl rfl⟩
 ·refine⟨_,B,rfl,⟨E,by omega⟩,.inr ⟨b,_,C,rfl,?_,hb b (.inl (by rw[z];rfl)),?_,Wr.VN D hE⟩⟩
  ·exact(VQ.of_heap A).lt
  ·have:=(VQ.of_heap A).sub;simpa using this
mutual
theorem Z4.spec(hc:Core F σ.d ρ w)(hE:Ext (Un F.S0 ρ σ.d) (Un F.S0 (fun i=>ρ (r i)) d') w w)(hn:∀j en,aX σ.d j=some en->ls.all (fun i=> !Nat.beq (r i) j)=true->∀b,qS (ρ j) b->¬Un F.S0 (fun i=>ρ (r i)) d' b):
  ∀{s s':Slot},Z4 σ r ls s s'->(∀u,s.ok ρ (Un F.S0 ρ σ.d) w u->s'.ok (fun i=>ρ (r i)) (Un F.S0 (fun i=>ρ (r i)) d') w u)/\
   (∀cs,s.YW ρ (Un F.S0 ρ σ.d) w cs->s'.YW (fun i=>ρ (r i)) (Un F.S0 (fun i=>ρ (r i)) d') w cs)
 |_,s',.same=>⟨fun u h=>Slot.VE s' u ((Lw s' u).1 h) hE (fun _ _=>rfl),fun cs h=>vK s' cs ((Zl s' cs).1 h) hE (fun _ _=>rfl)⟩
 |_,_,.K8 (j:=j) z A=>by
  have C:=Ri (hc.own j _ z) hE (hn j _ z A);refine⟨fun u h=>?_,fun cs h=>?_⟩
  ·simp only[Slot.ok] at h ⊢;rw[h.2];exact⟨_,C,rfl⟩
  ·simp only[Slot.YW] at h ⊢;rw[h.2];exact C
 |_,_,.agg B=>by
  refine⟨fun u h=>?_,fun cs h=>by simp[Slot.YW] at h⟩;simp only[Slot.ok] at h ⊢;obtain⟨cs,z,A⟩:=h;exact⟨cs,z,(T9.spec hc hE hn B).1 cs A⟩
 |_,_,.pack B H O=>by
  refine⟨fun u h=>?_,fun cs h=>by simp[Slot.YW] at h⟩;simp only[Slot.ok] at h ⊢;obtain⟨cs,z,A⟩:=h;exact⟨cs,(H _ _ _ cs).1 ((T9.spec hc hE hn B).1 cs A),by rw[z];simp[Wr.pk,O]⟩
 |_,_,.y6 (j:=j) z A B H=>by
  obtain⟨⟨b,cs,D,E,N⟩,_⟩:=hc.own j _ z;have I:=hn j _ z A b (.inl (by rw[D];rfl));have K:=(H _ _ _ cs).1 ((T9.spec hc hE hn B).1 cs N);have L:b<w.heap.size:=(ze.1 E).1;refine⟨fun u h=>?_,fun P h=>?_⟩
  ·simp only[Slot.ok] at h ⊢;refine⟨b,0,cs,?_,L,I,VQ.of_heap E,K⟩;rw[h.2,D];rfl
  ·simp only[Slot.YW] at h ⊢;refine⟨b,0,cs,?_,L,I,VQ.of_heap E,K⟩;rw[h.2,D];rfl
 |_,_,.ZJ B=>by
  refine⟨fun u h=>?_,fun cs h=>?_⟩
  ·simp only[Slot.ok] at h ⊢;obtain⟨vs,z,A⟩:=h;exact⟨vs,z,(T9.spec hc hE hn B).2 vs A⟩
  ·simp only[Slot.YW] at h ⊢;obtain⟨vs,z,A⟩:=h;exact⟨vs,z,(T9.spec hc hE hn B).2 vs A⟩
 |_,_,.aI5 (j:=j) z A hf=>by
  obtain⟨C,G⟩:=hf _ _ _ _ (hc.own j _ z) hE (hn j _ z A);refine⟨fun u h=>?_,fun cs h=>?_⟩
  ·simp only[Slot.ok] at h ⊢;rw[h.2];exact⟨_,C,G.symm⟩
  ·simp only[Slot.YW] at h ⊢;rw[h.2];exact C
 |_,_,.enc (f:=f) h G=>by
  refine⟨fun u M=>?_,fun cs hc=>?_⟩
  ·simp only[Slot.ok] at M ⊢;obtain⟨cs,z,A⟩:=M;exact gO ⟨cs,h _ _ _ z,by rw[A,G]⟩ hE
  ·simp only[Slot.YW] at hc ⊢;exact f.mono (h _ _ _ hc) hE
theorem T9.spec(hc:Core F σ.d ρ w)(hE:Ext (Un F.S0 ρ σ.d) (Un F.S0 (fun i=>ρ (r i)) d') w w)(hn:∀j en,aX σ.d j=some en->ls.all (fun i=> !Nat.beq (r i) j)=true->∀b,qS (ρ j) b->¬Un F.S0 (fun i=>ρ (r i)) d' b):
  ∀{l l':List Slot},T9 σ r ls l l'->(∀cs,bM ρ (Un F.S0 ρ σ.d) w l cs->bM (fun i=>ρ (r i)) (Un F.S0 (fun i=>ρ (r i)) d') w l' cs)/\(∀vs,aW ρ (Un F.S0 ρ σ.d) w l vs->aW (fun i=>ρ (r i)) (Un F.S0 (fun i=>ρ (r i)) d') w l' vs)
 |_,_,.nil=>⟨fun cs h=>h,fun vs h=>h⟩
 |_,_,.cons D E=>⟨fun cs h=>by
  simp only[bM] at h ⊢;obtain⟨c,d,z,A,B⟩:=h;exact⟨c,d,z,(Z4.spec hc hE hn D).2 c A,(T9.spec hc hE hn E).1 d B⟩,fun vs h=>by
  simp only[aW] at h ⊢;obtain⟨u,C,z,A,B⟩:=h
  exact⟨u,C,z,(Z4.spec hc hE hn D).1 u A,(T9.spec hc hE hn E).2 C B⟩⟩
end
theorem X6.spec{g:List (Nat×Slot)}(h:X6 σ r ls g):∀t s',lk g t=some s'->∃s,lk σ.g t=some s/\Z4 σ r ls s s':=by
 induction h with
 |nil=>intro t s h;simp[lk] at h
 |cons z A _ B=>
  rename_i u C D E _;intro t s h;simp only[lk] at h;cases hb:Nat.beq u t with
  |true=>have:=s8 hb;subst this;rw[hb] at h;simp at h;subst h;exact⟨_,z,A⟩
  |false=>rw[hb] at h;exact B t s h
theorem D4.spec{d:List (Nat×VH)}(h:D4 σ r ls d):∀i en',aX d i=some en'->(∃T l l' pb pb',aX σ.d (r i)=some (.box T l pb)/\en'= .box T l' pb'/\(∀c,pb'=some c->pb=some c)/\T9 σ r ls l l')\/∃en,aX σ.d (r i)=some en/\∀ρ S S' w u,en.ok ρ S w u->Ext S S' w w->en'.ok (fun i=>ρ (r i)) S' w u:=by
 induction h with
 |nil=>intro t s h;simp[aX] at h
 |box A G _ B=>
  rename_i z T l l' pb F _;intro t s h;simp only[aX] at h;cases hb:Nat.beq z t with
  |true=>have:=s8 hb;subst this;rw[hb] at h;simp at h;subst h;exact .inl ⟨T,l,l',pb,pb,A,rfl,fun _ h=>h,G⟩
  |false=>rw[hb] at h;exact B t s h
 |aRv A G _ B=>
  rename_i z T l l' pb F _;intro t s h;simp only[aX] at h;cases hb:Nat.beq z t with
  |true=>have:=s8 hb;subst this;rw[hb] at h;simp at h;subst h;exact .inl ⟨T,l,l',pb,none,A,rfl,(fun _ h=>(by cases h)),G⟩
  |false=>rw[hb] at h;exact B t s h
 |arr A _ B=>
  rename_i α z T e xs F _;intro t s h;simp only[aX] at h;cases hb:Nat.beq z t with
  |true=>
   have:=s8 hb;subst this;rw[hb] at h;simp at h;subst h;exact .inr ⟨_,A,fun ρ S S' w u h C=>VH.VE h C (fun _ E=>by simp[VH.YF] at E) (fun _ _=>rfl)⟩
  |false=>rw[hb] at h;exact B t s h
 |mp A _ B=>
  rename_i α β z e f m F _;intro t s h;simp only[aX] at h;cases hb:Nat.beq z t with
  |true=>
   have:=s8 hb;subst this;rw[hb] at h;simp at h;subst h;exact .inr ⟨_,A,fun ρ S S' w u h C=>VH.VE h C (fun _ E=>by simp[VH.YF] at E) (fun _ _=>rfl)⟩
  |false=>rw[hb] at h;exact B t s h
 |dp A _ B=>
  rename_i α z D x l F _;intro t s h;simp only[aX] at h;cases hb:Nat.beq z t with
  |true=>
   have:=s8 hb;subst this;rw[hb] at h;simp at h;subst h;refine .inr ⟨_,A,fun ρ S S' w u h C=>?_⟩;have:=D.mono h C (fun _ _=>rfl);simp only[VH.ok,aEu,Function.comp_def] at this ⊢;exact this
  |false=>rw[hb] at h;exact B t s h
 |cv A H _ B=>
  rename_i z en en' F _;intro t s h;simp only[aX] at h;cases hb:Nat.beq z t with
  |true=>
   have:=s8 hb;subst this;rw[hb] at h;simp at h;subst h;exact .inr ⟨_,A,fun ρ S S' w u h C=>VH.VE (H.2 _ _ _ _ h) C (fun _ E=>by rw[H.1] at E;simp at E) (fun _ _=>rfl)⟩
  |false=>rw[hb] at h;exact B t s h
theorem Sub.mk{σ':AS}(r:Nat->Nat)(hg:X6 σ r (σ'.d.map (·.1)) σ'.g)(hd:D4 σ r (σ'.d.map (·.1)) σ'.d)(hi:Rh r (σ'.d.map (·.1))=true):Sub F σ σ':=by
 rintro a w ⟨⟨ρ,z,hs⟩,hz,YR⟩;have L:=hd.spec;have E:∀i u,aX σ'.d i=some u->∃YT,aX σ.d (r i)=some YT:=fun i u h=>by
  rcases L i u h with⟨T,l,l',pb,_,A,_⟩|⟨_,A,_⟩
  ·exact⟨_,A⟩
  ·exact⟨_,A⟩
 have H:∀i u,aX σ'.d i=some u->i∈σ'.d.map (·.1):=fun i u h=>bh.2 ⟨_,mO h,rfl⟩;have Q:∀b,Un F.S0 (fun i=>ρ (r i)) σ'.d b->Un F.S0 ρ σ.d b:=by
  rintro b (h |⟨i,u,A,D⟩)
  ·exact .inl h
  ·obtain⟨YT,C⟩:=E i u A;exact .inr ⟨r i,YT,C,D⟩
 have I:Ext (Un F.S0 ρ σ.d) (Un F.S0 (fun i=>ρ (r i)) σ'.d) w w:=⟨YO _,fun b _ B=>⟨rfl,fun h=>B (Q b h)⟩⟩;have M:∀j u,aX σ.d j=some u->(σ'.d.map (·.1)).all (fun i=> !Nat.beq (r i) j)=true->∀b,qS (ρ j) b->¬Un F.S0 (fun i=>ρ (r i)) σ'.d b:=by
  intro j u K R b B S;rcases S with h |⟨i,G,A,D⟩
  ·have A:=(z.fresh j u b K B).1;exact absurd h (z.apart j u b K B)
  ·obtain⟨YT,C⟩:=E i G A;have:=z.inj j (r i) u YT b K C B D;have N:=j4.1 R i (H i G A);rw[this] at N;simp at N
 refine⟨⟨fun i=>ρ (r i),⟨z.low,z.size,z.frame,z.os,z.tape,z.output,?_,?_,?_,?_⟩,?_⟩,hz,YR⟩
 ·intro i u h;rcases L i u h with⟨T,l,l',pb,aa,A,rfl,h0,D⟩|⟨YT,A,D⟩
  ·obtain⟨⟨b,P,k1,k2,k3⟩,k4⟩:=z.own _ _ A;exact⟨⟨b,P,k1,k2,(T9.spec z I M D).1 P k3⟩,fun c N0=>k4 c (h0 c N0)⟩
  ·exact D _ _ _ _ _ (z.own _ _ A) I
 ·intro i u b h B;obtain⟨YT,C⟩:=E i u h;exact z.fresh (r i) YT b C B
 ·intro i j u G b h O B U;obtain⟨YT,C⟩:=E i u h;obtain⟨bg,h4⟩:=E j G O;exact Pk hi i (H i u h) j (H j G O) (z.inj _ _ _ _ b C h4 B U)
 ·intro i u b h B;obtain⟨YT,C⟩:=E i u h;exact z.apart (r i) YT b C B
 ·intro t V X;obtain⟨s,A,D⟩:=hg.spec t V X;exact(Z4.spec z I M D).1 _ (hs t s A)
end
section
variable {F:WV}{σ:AS}{pb:Option Nat}{d:Option Tmp}{ty:TypeId}{p:String}{af:Array Edge}{gd:Option (Nat×Bool)}
def Arg(σ:AS)(ZB:Bool)(x:Operand)(s:Slot):Prop:=∀ρ S a w,m7 σ #[x] ρ S a w->s.ok ρ (if ZB then fun _=>False else S) w (a.eval x)
theorem zR(S:Nat->Prop)(w:World)(b:Bool):Ext S (if b then fun _=>False else S) w w:=by
 cases b
 ·exact Ext.refl _ _
 ·exact⟨YO _,fun _ _ _=>⟨rfl,fun h=>h⟩⟩
theorem Arg.dir{ZB:Bool}{x:Operand}{s:Slot}(h:dD σ.g x=some s):Arg σ ZB x s:=fun ρ S a w K=>
 Slot.VE s _ (K.slot x (by simp) s h) (zR S w ZB) (fun _ _=>rfl)
theorem Arg.mo{ZB:Bool}{α:Type}(e:Wr α):Arg σ ZB (.const (.slice none 0 0)) (.v (Wr.sl e) []):=fun ρ _ _ w _=>To e ρ _ w
theorem Arg.aMq{ZB:Bool}(T:TypeId):Arg σ ZB (.const .nilIface) (.v (Wr.err T) none):=fun ρ _ _ w _=>Pj T ρ _ w
theorem Arg.ref{α:Type}{x:Operand}{i:Nat}{T:TypeId}{e:Wr α}{xs:List α}(h:dD σ.g x=some (.ref i))(he:aX σ.d i=some (.arr T e xs)):Arg σ true x (.v (Wr.sl e) xs):=by
 intro ρ S a w K;obtain⟨u,z,_⟩:=yO K (x:=x) (by simp) h he;rw[u];simp only[Slot.ok];exact⟨_,Ri z (zR S w true) (fun _ _ h=>h),rfl⟩
inductive gh (σ:AS) (ZB:Bool):List Slot->List Slot->Prop
 |nil:gh σ ZB [] []
 |same {s:Slot} {l l':List Slot}:gh σ ZB l l'->gh σ ZB (s::l) (s::l')
 |ref {α:Type} {i:Nat} {T:TypeId} {e:Wr α} {xs:List α} {l l':List Slot}:ZB=true->aX σ.d i=some (.arr T e xs)->gh σ ZB l l'->gh σ ZB (.ref i::l) (.v (Wr.sl e) xs::l')
theorem gh.spec{ZB:Bool}{l l':List Slot}(h:gh σ ZB l l'){ρ S w}(iz:∀i∈dU l,∀en,aX σ.d i=some en->en.ok ρ S w (ρ i)):
  ∀cs,bM ρ S w l cs->bM ρ (if ZB then fun _=>False else S) w l' cs:=by
 induction h with
 |nil=>intro cs h;exact h
 |same _ C=>
  rename_i s l l' _;intro cs h;simp only[bM] at h ⊢;obtain⟨c,d,z,A,B⟩:=h;exact⟨c,d,z,vK s c A (zR S w ZB) (fun _ _=>rfl),C (fun i u=>iz i (by simp[dU,u])) d B⟩
 |ref D E _ C=>
  rename_i α i T e xs l l' _;intro cs h;simp only[bM,Slot.YW] at h ⊢;obtain⟨c,d,z,A,B⟩:=h;refine⟨c,d,z,?_,C (fun i u=>iz i (by simp[dU,u])) d B⟩;rw[A.2];subst D;exact Ri (iz i (by simp[dU,Slot.YF]) _ E) (zR S w true) (fun _ _ h=>h)
theorem Arg.agg{ZB:Bool}{α:Type}{x:Operand}{l l':List Slot}{e:Wr α}{z:α}(h:dD σ.g x=some (.agg l))(hl:gh σ ZB l l')(hs:K4 l' e z)(ha:e.agg=true):Arg σ ZB x (.v e z):=by
 intro ρ S a w K;have A:=K.slot x (by simp) _ h;simp only[Slot.ok] at A ⊢;obtain⟨u,E,F⟩:=A;refine⟨u,(hs _ _ _ u).1 (hl.spec (fun i B C D=>(K.y9 x (by simp) _ h i (by simpa[Slot.YF] using B) C D).1) u F),?_⟩;rw[E];simp[Wr.pk,ha]
inductive N5 (σ:AS) (ZB:Bool):List Operand->List Slot->Prop
 |nil:N5 σ ZB [] []
 |cons {x:Operand} {s:Slot} {xs:List Operand} {l:List Slot}:Arg σ ZB x s->N5 σ ZB xs l->N5 σ ZB (x::xs) (s::l)
theorem N5.spec{ZB:Bool}{xs:List Operand}{l:List Slot}(h:N5 σ ZB xs l){ρ S a w}{ys:Array Operand}(Z9:∀x∈xs,x∈ys)(K:m7 σ ys ρ S a w):aW ρ (if ZB then fun _=>False else S) w l (xs.map a.eval):=by
 induction h with
 |nil=>rfl
 |cons z _ A=>
  rename_i x s xs l _;simp only[E5,aW];refine⟨_,_,rfl,z ρ S a w ⟨K.low,fun y u s h=>?_,fun y u s h=>?_⟩,A fun y u=>Z9 y (Y8 _ u)⟩
  ·have:y=x:=by simpa using u
   subst this;exact K.slot y (Z9 y (by simp)) s h
  ·have:y=x:=by simpa using u
   subst this;exact K.y9 y (Z9 y (by simp)) s h
theorem uA{P:Program}{f:FuncId}{xs:List Operand}{ts:Array TypeId}{a:Act}{w:World}(XK:∀args w,(callFunc f args).run P w= .ok (.enter f args) w):
  (execOp a.eval ⟨d,.call ⟨.value (.func f),xs.toArray,ts⟩,ty,p,af,gd⟩).run P w= .ok (.enter f (xs.map a.eval).toArray) w:=by
 simp[execOp,resolve,Act.eval,Deferred.ofValue,invoke,XK]
theorem fI{f:FuncId}{xs:List Operand}{ts:Array TypeId}{ss:List Slot}{res:Slot}{new:List (Nat×VH)}(k:Nat)(hc:VS F.P f ss res new)(XK:∀args w,(callFunc f args).run F.P w= .ok (.enter f args) w)
  (ha:N5 σ false xs ss) (YK:kY res new=true):
  JO F ⟨d,.call ⟨.value (.func f),xs.toArray,ts⟩,ty,p,af,gd⟩ σ (res.map (·+k)) (Lx (·+k) new):=by
 intro ρ S a w K;refine VJ.enter (uA XK) ?_;have:=ha.spec (ys:=(Op.call ⟨.value (.func f),xs.toArray,ts⟩).operands) (by intro x u;simp[Op.operands,Call.operands,u]) K;refine(hc S w _ ρ K.low this).mono ?_;rintro e z ⟨v,rfl,h⟩;exact⟨v,rfl,h.shift k YK⟩
def XH(s:Slot):Prop:=∀ρ S S' w u,s.ok ρ S w u->s.ok ρ S' w u
def YE(new:List (Nat×VH)):Prop:=∀i en,aX new i=some en->∀ρ S S' w u,en.ok ρ S w u->en.ok ρ S' w u
theorem Z4.of_eq{σ:AS}{r:Nat->Nat}{ls:List Nat}{s s':Slot}(h:s=s'.map r):Z4 σ r ls s s':=by subst h;exact .same
theorem XH.v{α:Type}{e:Wr α}[YI e]{x:α}:XH (.v e x):=fun ρ S C w u h=>by
 simp only[Slot.ok] at h ⊢;obtain⟨z,A,B⟩:=h;exact⟨z,YI.flat A,B⟩
theorem XH.ref{i:Nat}:XH (.ref i):=fun ρ S z w u h=>by simpa only[Slot.ok] using h
inductive C3:List Slot->Prop
 |nil:C3 []
 |v {α:Type} {e:Wr α} [YI e] {x:α} {l}:C3 l->C3 (.v e x::l)
 |ref {i:Nat} {l}:C3 l->C3 (.ref i::l)
 |agg {l l':List Slot}:C3 l'->C3 l->C3 (.agg l'::l)
theorem C3.spec{l:List Slot}(h:C3 l):(∀ρ S S' w vs,aW ρ S w l vs->aW ρ S' w l vs)/\(∀ρ S S' w vs,bM ρ S w l vs->bM ρ S' w l vs):=by
 induction h with
 |nil=>exact⟨fun _ _ _ _ _ h=>h,fun _ _ _ _ _ h=>h⟩
 |v _ D=>
  refine⟨fun ρ S S' w vs h=>?_,fun ρ S S' w vs h=>?_⟩
  ·simp only[aW] at h ⊢;obtain⟨u,A,B,z,C⟩:=h;exact⟨u,A,B,XH.v ρ S S' w u z,D.1 ρ S S' w _ C⟩
  ·simp only[bM,Slot.YW] at h ⊢;obtain⟨u,A,B,z,C⟩:=h;exact⟨u,A,B,YI.flat z,D.2 ρ S S' w _ C⟩
 |ref _ D=>
  refine⟨fun ρ S S' w vs h=>?_,fun ρ S S' w vs h=>?_⟩
  ·simp only[aW] at h ⊢;obtain⟨u,A,B,z,C⟩:=h;exact⟨u,A,B,XH.ref ρ S S' w u z,D.1 ρ S S' w _ C⟩
  ·simp only[bM,Slot.YW] at h ⊢;obtain⟨u,A,B,z,C⟩:=h;exact⟨u,A,B,z,D.2 ρ S S' w _ C⟩
 |agg _ _ G D=>
  refine⟨fun ρ S S' w vs h=>?_,fun ρ S S' w vs h=>?_⟩
  ·simp only[aW,Slot.ok] at h ⊢;obtain⟨u,A,B,⟨E,z,F⟩,C⟩:=h;exact⟨u,A,B,⟨E,z,G.2 ρ S S' w _ F⟩,D.1 ρ S S' w _ C⟩
  ·simp only[bM,Slot.YW] at h ⊢;obtain⟨u,A,B,z,C⟩:=h;exact z.elim
theorem XH.agg{l:List Slot}(h:C3 l):XH (.agg l):=fun ρ S z w u k=>by
 simp only[Slot.ok] at k ⊢;obtain⟨A,B,C⟩:=k;exact⟨A,B,h.spec.2 ρ S z w _ C⟩
theorem XH.WC{l:List Slot}(h:C3 l):XH (.WC l):=fun ρ S z w u k=>by
 simp only[Slot.ok] at k ⊢;obtain⟨A,B,C⟩:=k;exact⟨A,B,h.spec.1 ρ S z w _ C⟩
theorem YE.nil:YE []:=fun i u h=>by simp[aX] at h
theorem YE.arr{α:Type}{i:Nat}{T:TypeId}{e:Wr α}[YI e]{xs:List α}{r:List (Nat×VH)}(h:YE r):YE ((i,.arr T e xs)::r):=by
 intro j A z;simp only[aX] at z;cases hb:Nat.beq i j with
 |true=>
  rw[hb] at z;simp at z;subst z;intro ρ S S' w u h;rcases h with h |⟨b,B,C,D,E,F,G,H,I⟩
  ·exact .inl h
  ·exact .inr ⟨b,B,C,D,E,F,G,YI.YU H,I⟩
 |false=>rw[hb] at z;exact h j A z
theorem qW{f:FuncId}{xs:List Operand}{ts:Array TypeId}{ss:List Slot}{res:Slot}{new:List (Nat×VH)}(k:Nat)(hc:VS F.P f ss res new)(XK:∀args w,(callFunc f args).run F.P w= .ok (.enter f args) w)
  (ha:N5 σ true xs ss) (YK:kY res new=true) (hf:XH res) (hn:YE new):
  JO F ⟨d,.call ⟨.value (.func f),xs.toArray,ts⟩,ty,p,af,gd⟩ σ (res.map (·+k)) (Lx (·+k) new):=by
 intro ρ S a w K;refine VJ.enter (uA XK) ?_;have:=ha.spec (ys:=(Op.call ⟨.value (.func f),xs.toArray,ts⟩).operands) (by intro x B;simp[Op.operands,Call.operands,B]) K;refine(hc (fun _=>False) w _ ρ (fun _ h=>h.elim) this).mono ?_;rintro e G ⟨v,rfl,h⟩;refine⟨v,rfl,XJ.shift k YK ?_⟩;obtain⟨ρ',C,D,E,u⟩:=h;exact⟨ρ',C,D,hf _ _ _ _ _ E,⟨fun i z A=>hn i z A _ _ _ _ _ (u.own i z A),u.fresh,u.inj⟩⟩
end
end Go.Sw
namespace Go.Sw
open Go Go.RowKit
def iO(d:Option Tmp)(s:Slot)(g:List (Nat×Slot)):List (Nat×Slot):=match d with | some t=>(t,s)::g | none=>g
def rd:Operand->List Nat
 | .tmp t=>[t]
 |_=>[]
def looks(ops:Array Oper)(o:Oper):List Nat:=
 o.op.operands.toList.flatMap rd++(match o.guard with | some (g,_)=>((ops[g]?).bind (·.dst)).toList | none=>[])
def Ly(o:Oper):List Nat:=o.after.toList.filterMap fun e=>if Region.binds .any e then some e.on else none
def Da(ops:Array Oper):Bool:=(List.range ops.size).all fun i=>match ops[i]? with | none=>false | some o=>(Ly o).all fun j=>decide (j<i)
section
variable {F:WV}{ops:Array Oper}
def FG(ops:Array Oper)(L:Nat->Bool):Prop:=∀i o,L i=true->ops[i]? =some o->∀j∈Ly o,L j=true
theorem Un.congr{S:Nat->Prop}{ρ:Nat->LV}{d d':List (Nat×VH)}(h:∀l en,aX d l=some en↔aX d' l=some en):Un S ρ d=Un S ρ d':=by
 funext k;refine propext ⟨fun u=>?_,fun u=>?_⟩
 ·rcases u with u |⟨i,en,z,A⟩
  ·exact .inl u
  ·exact .inr ⟨i,en,(h i en).1 z,A⟩
 ·rcases u with u |⟨i,en,z,A⟩
  ·exact .inl u
  ·exact .inr ⟨i,en,(h i en).2 z,A⟩
theorem Core.congr{d d':List (Nat×VH)}{ρ:Nat->LV}{w:World}(h:∀l en,aX d l=some en↔aX d' l=some en)(hc:Core F d ρ w):Core F d' ρ w:=
 ⟨hc.low,hc.size,hc.frame,hc.os,hc.tape,hc.output,fun i en u=>by rw[<-Un.congr h];exact hc.own i en ((h i en).2 u),fun i en b u=>hc.fresh i en b ((h i en).2 u),fun i j en z b u A=>hc.inj i j en z b ((h i en).2 u) ((h j z).2 A),
  fun i en b u=>hc.apart i en b ((h i en).2 u)⟩
theorem Core.below{d:List (Nat×VH)}{ρ:Nat->LV}{w w':World}(hc:Core F d ρ w)(hb:Below w.heap.size w w'):Core F d ρ w'/\Ext (Un F.S0 ρ d) (Un F.S0 ρ d) w w':=by
 have A:Ext (Un F.S0 ρ d) (Un F.S0 ρ d) w w':=rJ hb fun _ _ h=>h
 exact⟨⟨hc.low,db hc.size hb.size,fun k B C=>(hb.block k (O3 B hc.size)).trans (hc.frame k B C),hb.os.trans hc.os,hb.tape.trans hc.tape,hb.output.trans hc.output,
  fun i u h=>VH.VE (hc.own i u h) A (fun _ _=>rfl) (fun b z=>hb.block b (hc.fresh i u b h z).2),fun i u b h z=>⟨(hc.fresh i u b h z).1,O3 (hc.fresh i u b h z).2 hb.size⟩,hc.inj,hc.apart⟩,A⟩
theorem mC{g:List (Nat×Slot)}{t u:Nat}{s:Slot}:lk ((t,s)::g) u=if t=u then some s else lk g u:=by
 simp only[lk];cases hb:Nat.beq t u with
 |true=>have:=s8 hb;subst this;simp
 |false=>
  have:t≠u:=fun e=>by subst e;simp at hb
  simp[this]
theorem BY(m i:Nat)(L:Nat->Bool)(hi:i<m)(hL:L i=false):((List.range m).filter fun q=>q==i || L q).length=((List.range m).filter fun q=>L q).length+1:=by
 induction m with
 |zero=>omega
 |succ m z=>
  rw[List.range_succ,zh,zh,sM,sM];by_cases h:i=m
  ·subst h;have:((List.range i).filter fun q=>q==i || L q)=(List.range i).filter fun q=>L q:=by
    refine List.filter_congr fun q u=>?_;have:=jv.1 u;have:(q==i)=false:=by simp;omega
    simp[this]
   rw[this];simp[hL]
  ·rw[z (by omega)];have:(m==i)=false:=by simp;omega
   simp[aD4,this];split<;>simp<;>omega
end
end Go.Sw
namespace Go.Sw
open Go Go.RowKit
theorem uB{P:Program}{T:TypeId}{ti:TypeInfo}(h:∀w,(typeInfo T).run P w= .ok ti w):P.info? T=some ti:=by
 have:=h default;unfold typeInfo at this;simp only[Sem.run_bind,run_program,Result.andThen_ok] at this;cases hi:P.info? T with
 |none=>rw[hi] at this;simp at this
 |some i=>rw[hi] at this;simp at this;rw[this]
theorem qX{P:Program}{T:TypeId}{de:TypeDesc}(h:∀w,(underlying T).run P w= .ok de w):P.underlying T=some de:=by
 have:=h default;unfold underlying at this;simp only[Sem.run_bind,run_program,Result.andThen_ok] at this;cases hi:P.underlying T with
 |none=>rw[hi] at this;simp at this
 |some i=>rw[hi] at this;simp at this;rw[this]
theorem La{P:Program}{T:TypeId}{ti:TypeInfo}{n:Nat}(h:∀w,(typeInfo T).run P w= .ok ti w)(hs:∀w,(sizeOf T).run P w= .ok n w):ti.size=n:=by
 have:=hs default;unfold sizeOf at this;simp only[Sem.run_bind,h,Result.andThen_ok,Sem.run_pure,Result.ok.injEq,and_true] at this;exact this
structure Z1 (b:Nat) (w w':World):Prop where
 size:w'.heap.size=w.heap.size
 other:∀k,k≠b->w'.heap[k]? =w.heap[k]?
 os:w'.os=w.os
 tape:w'.tape=w.tape
 output:w'.output=w.output
theorem Z1.setRow(w:World)(b:Nat)(cs:Array Value):Z1 b w (w.setRow b cs):=⟨by simp[World.setRow],fun k h=>setRow_other w b k cs h,rfl,rfl,rfl⟩
theorem cK{d:List (Nat×VH)}{t u:Nat}{s:VH}:aX ((t,s)::d) u=if t=u then some s else aX d u:=by
 simp only[aX];cases hb:Nat.beq t u with
 |true=>have:=s8 hb;subst this;simp
 |false=>
  have:t≠u:=fun e=>by subst e;simp at hb
  simp[this]
section
variable {F:WV}{σ:AS}
theorem Core.upd{d:List (Nat×VH)}{ρ:Nat->LV}{w w':World}{i b:Nat}{en en':VH}(hc:Core F d ρ w)(hi:aX d i=some en)(hb:qS (ρ i) b)(hu:Z1 b w w')
  (F5:Ext (Un F.S0 ρ d) (Un F.S0 ρ d) w w'->en'.ok ρ (Un F.S0 ρ d) w' (ρ i)):Core F ((i,en')::d) ρ w'/\Ext (Un F.S0 ρ d) (Un F.S0 ρ ((i,en')::d)) w w':=by
 have I:∀k,Un F.S0 ρ ((i,en')::d) k↔Un F.S0 ρ d k:=by
  intro k;constructor
  ·rintro (h |⟨j,e,B,C⟩)
   ·exact .inl h
   ·rw[cK] at B;split at B
    ·rename_i u;subst u;exact .inr ⟨i,en,hi,C⟩
    ·exact .inr ⟨j,e,B,C⟩
  ·rintro (h |⟨j,e,B,C⟩)
   ·exact .inl h
   ·by_cases u:i=j
    ·subst u;exact .inr ⟨i,en',by rw[cK,WJ rfl],C⟩
    ·exact .inr ⟨j,e,by rw[cK,WA u];exact B,C⟩
 have O:Un F.S0 ρ d b:= .inr ⟨i,en,hi,hb⟩;have G:Ext (Un F.S0 ρ d) (Un F.S0 ρ d) w w':=⟨by rw[hu.size];exact YO _,fun k z A=>⟨hu.other k (fun e=>by subst e;exact A O),A⟩⟩;have K:Ext (Un F.S0 ρ d) (Un F.S0 ρ ((i,en')::d)) w w':=⟨G.size,fun k z A=>⟨(G.F4 k z A).1,fun h=>A ((I k).1 h)⟩⟩;have P:Ext (Un F.S0 ρ d) (Un F.S0 ρ ((i,en')::d)) w' w':=⟨YO _,fun k z A=>⟨rfl,fun h=>A ((I k).1 h)⟩⟩;have L:∀j e,aX ((i,en')::d) j=some e->(j=i/\e=en')\/(j≠i/\aX d j=some e):=by
  intro j e h;rw[cK] at h;split at h
  ·rename_i u;cases h;exact .inl ⟨u.symm,rfl⟩
  ·rename_i u;exact .inr ⟨fun e=>u e.symm,h⟩
 have E:∀j e,aX ((i,en')::d) j=some e->∃e',aX d j=some e':=fun j e h=>by
  rcases L j e h with⟨rfl,_⟩|⟨_,h⟩
  ·exact⟨en,hi⟩
  ·exact⟨e,h⟩
 refine⟨⟨hc.low,by rw[hu.size];exact hc.size,fun k z M=>?_,hu.os.trans hc.os,hu.tape.trans hc.tape,hu.output.trans hc.output,fun j e h=>?_,fun j e k h H=>?_,fun j N e e' k h D Q R=>?_,fun j e k h H=>?_⟩,K⟩
 ·have:k≠b:=fun e=>by
   subst e;rcases (hc.fresh i en k hi hb).1 with h | h
   ·omega
   ·exact M h
  rw[hu.other k this];exact hc.frame k z M
 ·rcases L j e h with⟨rfl,rfl⟩|⟨U,h⟩
  ·exact VH.VE (F5 G) P (fun _ _=>rfl) (fun _ _=>rfl)
  ·refine VH.VE (hc.own j e h) K (fun _ _=>rfl) (fun k z=>hu.other k fun e'=>U ?_);subst e';exact hc.inj j i e en k h hi z hb
 ·obtain⟨e',D⟩:=E j e h;rw[hu.size];exact hc.fresh j e' k D H
 ·obtain⟨S,B⟩:=E j e h;obtain⟨T,C⟩:=E N e' D;exact hc.inj j N S T k B C Q R
 ·obtain⟨e',D⟩:=E j e h;exact hc.apart j e' k D H
theorem pZ{o:Oper}{i:Nat}{en en':VH}(hi:aX σ.d i=some en)(hd:o.dst=none)
  (h:∀(ρ:Nat->LV) (a:Act) (w:World),Core F σ.d ρ w->(∀t s,lk σ.g t=some s->s.ok ρ (Un F.S0 ρ σ.d) w (a.tmps.getD t undef))->∃b w',qS (ρ i) b/\Z1 b w w'/\(execOp a.eval o).run F.P w= .ok .skip w'/\
   (Ext (Un F.S0 ρ σ.d) (Un F.S0 ρ σ.d) w w'->en'.ok ρ (Un F.S0 ρ σ.d) w' (ρ i))):JM F o σ ⟨σ.g,(i,en')::σ.d⟩:=by
 rintro a w ⟨⟨ρ,u,z⟩,I,K⟩;obtain⟨b,w',B,C,D,E⟩:=h ρ a w u z;refine VJ.skip D ?_;obtain⟨G,H⟩:=u.upd hi B C E;rw[hd];exact⟨⟨ρ,G,fun t s A=>Slot.VE s _ (z t s A) H (fun _ _=>rfl)⟩,I,K⟩
end
end Go.Sw
namespace Go.Sw
open Go Go.RowKit
section
variable {F:WV}{σ:AS}{pb:Option Nat}{s:Slot}{d:Option Tmp}{ty:TypeId}{p:String}{af:Array Edge}{gd:Option (Nat×Bool)}{x y:Operand}
theorem Jv{ρ:Nat->LV}{a:Act}{w:World}(hs:∀t s,lk σ.g t=some s->s.ok ρ (Un F.S0 ρ σ.d) w (a.tmps.getD t undef))(h:dD σ.g x=some s):s.ok ρ (Un F.S0 ρ σ.d) w (a.eval x):=by
 cases x with
 |tmp t=>exact hs t s h
 |const u=>exact(Lr h ρ _ w).1
 |global g=>cases h
 |func f=>cases h
theorem Gx{ρ S w}{s:Slot}{cs:List Value}(h:s.YW ρ S w cs):∀v∈cs,s≠.top->v.oneCell'=true:=by
 intro v u C;cases s<;>simp only[Slot.YW] at h
 case v e z=>exact e.cell h v u
 case ref i=>obtain⟨⟨a,l,c,A⟩|⟨a,A⟩,rfl⟩:=h<;>(simp at u;rw[u,A];rfl)
 case ptr i B=>obtain⟨⟨b,A⟩,rfl⟩:=h;simp at u;rw[u,A];rfl
 case dw i B k n=>obtain⟨⟨b,A⟩,rfl⟩:=h;simp at u;rw[u,A];rfl
 case el i k n B=>obtain⟨⟨b,o,l,c,A⟩,rfl⟩:=h;simp at u;rw[u,A];rfl
 case r8 i B lo n cap=>obtain⟨⟨b,A⟩,rfl⟩:=h;simp at u;rw[u,A];rfl
 case ln i B n cap=>obtain⟨⟨b,o,l,c,A⟩,rfl⟩:=h;simp at u;rw[u,A];rfl
 case sub i B n=>obtain⟨⟨a,l,c,A⟩,D,E,F,G,rfl⟩:=h;simp at u;rw[u,A];cases a<;>rfl
 case XR e z=>obtain⟨b,B,H,rfl,A⟩:=h;simp at u;rw[u];rfl
 case ZJ g cap=>obtain⟨vs,rfl,A⟩:=h;simp at u;rw[u];rfl
 case top=>exact absurd rfl C
theorem lA{P:Program}{w:World}{U T:TypeId}{b off n:Nat}{v:Value}{a c e:List Value}(hS:∀w,(sizeOf U).run P w= .ok n w)(hn:v.cells.size=n)(A4:∀u∈v.cells.toList,u.oneCell'=true)
  (hb:w.heap[b]? =some (.cells (a++(c++e)).toArray T (0,0))) (fk:a.length=off) (hc:c.length=n):
  (storeVar U ⟨b,off,none⟩ v).run P w= .ok () (w.setRow b (a++(v.cells.toList++e)).toArray):=by
 unfold storeVar;simp only[Sem.run_bind,hS,Result.andThen_ok,hn,ne_eq,aDj,ZW];have h:v.cells.toList.length=n:=by simpa using hn
 have:=run_storeCells_at P b off T v.cells.toList 0 _ w hb (by simp;omega) A4;simp only[aDg] at this;have z:(a++(c++e)).take off=a:=by rw[<-fk];exact yv
 have A:(a++(c++e)).drop (off+v.cells.toList.length)=e:=by
  rw[<-A8];have:off+v.cells.toList.length=(a++c).length:=by rw[sM,fk,h,hc]
  rw[this];exact pv
 rw[z,A] at this;simpa[A8] using this
theorem lB{P:Program}{a:Act}{w w':World}{U:TypeId}{ad:Addr}(h2:a.eval x= .pointer (some ad))(XY:(storeVar U ad (a.eval y)).run P w= .ok () w'):
  (execOp a.eval ⟨d,.store U x y,ty,p,af,gd⟩).run P w= .ok .skip w':=by
 simp only[execOp,h2,Instr.storeAt,Instr.sureAddr,Sem.run_bind,Sem.run_pure,Result.andThen_ok,XY]
theorem Tq{T U:TypeId}{l:List Slot}{i off n:Nat}{s0:Slot}(hx:dD σ.g x=some (.ptr i off))(he:aX σ.d i=some (.box T l pb))(ho:nI l off=some s0)(hy:dD σ.g y=some s)(hp:s.plain=true)(m9:Nat.beq s.sz n=true)(H4:Nat.beq s0.sz n=true)
  (hS:∀w,(sizeOf U).run F.P w= .ok n w):JM F ⟨none,.store U x y,ty,p,af,gd⟩ σ ⟨σ.g,(i,.box T (nV l off s) pb)::σ.d⟩:=by
 replace m9:=s8 m9;replace H4:=s8 H4;refine pZ he rfl fun ρ a w z A=>?_;have K:=cI z A (Op.store U x y).operands;obtain⟨b,R,B,I,C,L⟩:=zQ K (x:=x) (by simp[Op.operands]) hx he;have h:=qV hp (Jv A hy);obtain⟨M,c,N,rfl,rfl,O,Q⟩:=uZ ho L;have D:∀u∈(a.eval y).cells.toList,u.oneCell'=true:=fun u G=>Gx h u G (fun e=>by subst e;cases hp);have E:=lA (P:=F.P) (w:=w) (U:=U) hS (by have:=nL h;simp only[Z0] at this;omega) D C rfl (by rw[nL O];exact H4);refine⟨b,w.setRow b (M++((a.eval y).cells.toList++N)).toArray,.inl (by rw[B];rfl),Z1.setRow w b _,?_,fun H=>?_⟩
 ·exact lB I E
 ·refine⟨⟨b,_,B,setRow_heap w b _ _ T _ C,?_⟩,(z.own i _ he).2⟩;exact fO _ _ (Q s _ h) H (fun _ _=>rfl)
theorem bX{α:Type}{e:Wr α}{z:α}{T U:TypeId}{l l':List Slot}{i:Nat}(hx:dD σ.g x=some (.ptr i 0))(he:aX σ.d i=some (.box T l pb))(hl:Nat.beq (l.map Slot.sz).sum e.n=true)(hy:dD σ.g y=some (.v e z))(T1:K4 l' e z)
  (hS:∀w,(sizeOf U).run F.P w= .ok e.n w):JM F ⟨none,.store U x y,ty,p,af,gd⟩ σ ⟨σ.g,(i,.box T l' pb)::σ.d⟩:=by
 replace hl:=s8 hl;refine pZ he rfl fun ρ a w D E=>?_;have K:=cI D E (Op.store U x y).operands;obtain⟨b,B,G,N,C,A⟩:=zQ K (x:=x) (by simp[Op.operands]) hx he;have h:=qV (s:= .v e z) rfl (Jv E hy);simp only[Slot.YW] at h;have H:B.length=e.n:=by
  rw[<-hl];clear hl hS hx he C K
  induction l generalizing B with
  |nil=>simp only[bM] at A;simp[A]
  |cons t l R=>
   simp only[bM] at A;obtain⟨c,d,rfl,O,Q⟩:=A;rw[sM,nL O,R d Q];simp
 have I:=lA (P:=F.P) (w:=w) (U:=U) (a:=[]) (c:=B) (e:=[]) hS (by have:=e.len h;simp only[Z0] at this;omega) (fun u L=>e.cell h u L) (by simpa using C) rfl H;refine⟨b,w.setRow b ([]++((a.eval y).cells.toList++[])).toArray,.inl (by rw[G];rfl),Z1.setRow w b _,?_,fun M=>?_⟩
 ·exact lB N I
 ·refine⟨⟨b,_,G,setRow_heap w b _ _ T _ C,?_⟩,(D.own i _ he).2⟩;refine fO _ _ ((T1 _ _ _ _).2 ?_) M (fun _ _=>rfl);simpa using h
theorem Jw{T U:TypeId}{l l':List Slot}{i n:Nat}(hx:dD σ.g x=some (.ptr i 0))(he:aX σ.d i=some (.box T l pb))(hl:(l.map Slot.sz).sum=n)(hy:dD σ.g y=some (.agg l'))(T1:(l'.map Slot.sz).sum=n)(hnt:l'.all Slot.plain=true)
  (hS:∀w,(sizeOf U).run F.P w= .ok n w):JM F ⟨none,.store U x y,ty,p,af,gd⟩ σ ⟨σ.g,(i,.box T l' pb)::σ.d⟩:=by
 refine pZ he rfl fun ρ a w M N=>?_;have K:=cI M N (Op.store U x y).operands;obtain⟨b,z,O,h2,Q,h⟩:=zQ K (x:=x) (by simp[Op.operands]) hx he;have I:=Jv N hy;simp only[Slot.ok] at I;obtain⟨R,C,D⟩:=I;have L:∀(l:List Slot) (z:List Value),bM ρ (Un F.S0 ρ σ.d) w l z->z.length=(l.map Slot.sz).sum:=by
  intro l
  induction l with
  |nil=>intro z h;simp only[bM] at h;simp[h]
  |cons t l H=>
   intro z h;simp only[bM] at h;obtain⟨c,d,rfl,E,G⟩:=h;rw[sM,nL E,H d G];simp
 have S:∀(l:List Slot) (z:List Value),l.all Slot.plain=true->bM ρ (Un F.S0 ρ σ.d) w l z->∀u∈z,u.oneCell'=true:=by
  intro l
  induction l with
  |nil=>intro z _ h;simp only[bM] at h;simp[h]
  |cons t l H=>
   intro z B h u A;simp only[bM] at h;obtain⟨c,d,rfl,E,G⟩:=h;simp only[List.all_cons,D1] at B;rcases K9.1 A with A | A
   ·exact Gx E u A (fun e=>by subst e;cases B.1)
   ·exact H d B.2 G u A
 have V:=lA (P:=F.P) (w:=w) (U:=U) (a:=[]) (c:=z) (e:=[]) (v:=a.eval y) hS (by rw[C];simp[Value.cells,L l' R D,T1]) (by rw[C];simpa[Value.cells] using S l' R hnt D) (by simpa using Q) rfl (by rw[L l z h,hl]);refine⟨b,w.setRow b ([]++((a.eval y).cells.toList++[])).toArray,.inl (by rw[O];rfl),Z1.setRow w b _,?_,fun X=>?_⟩
 ·exact lB h2 V
 ·refine⟨⟨b,_,O,setRow_heap w b _ _ T _ Q,?_⟩,(M.own i _ he).2⟩;refine fO _ _ ?_ X (fun _ _=>rfl);rw[C];simpa[Value.cells] using D
theorem OW{xs:Array Operand}{ρ:Nat->LV}{S a w}(K:m7 σ xs ρ S a w)(hm:x∈xs){α:Type}{e:Wr α}{zs:List α}{T:TypeId}{i k off:Nat}(hx:dD σ.g x=some (.el i k e.n off))(he:aX σ.d i=some (.arr T e zs)):
  ∃b cap pre cs post,(ρ i).v= .slice (some ⟨b,pre.length,none⟩) zs.length cap/\a.eval x= .pointer (some ⟨b,pre.length+(k*e.n+off),none⟩)/\w.heap[b]? =some (.cells (pre++(cs++post)).toArray T (0,0))/\e.YU zs S w cs/\
   zs.length<=cap/\cap*e.n<=cs.length+post.length/\zs.length<=140737488355328:=by
 have h:=K.slot x hm _ hx;simp only[Slot.ok] at h;obtain⟨⟨b,o,l,c,z⟩,B⟩:=h;have:=(K.y9 x hm _ hx i (by simp[Slot.YF]) _ he).1;rw[z] at B;rcases this with⟨_,u⟩|⟨E,cap,pre,cs,post,u,C,D⟩
 ·rw[z] at u;cases u
 ·have A:=z.symm.trans u;simp only[Value.slice.injEq,A7,Addr.mk.injEq,and_true] at A;obtain⟨⟨rfl,rfl⟩,_,_⟩:=A;exact⟨b,cap,pre,cs,post,u,B,C,D⟩
theorem iW{α:Type}{e:Wr α}{zs:List α}{T U E:TypeId}{k:IntKind}{n:Int}{z:α}{i:Nat}(hz:Sw.idx zs n=some z)(hx:dD σ.g x=some (.ref i))(he:aX σ.d i=some (.arr T e zs))(hy:dD σ.g y=some (.v (Wr.int k) n))
  (hU:∀w,(underlying U).run F.P w= .ok (.slice E) w) (hE:∀w,(sizeOf E).run F.P w= .ok e.n w):JO F ⟨d,.indexAddr U x y,ty,p,af,gd⟩ σ (.el i n.toNat e.n 0) []:=by
 intro ρ S a w K;obtain⟨B,C,_⟩:=yO K (x:=x) (by simp[Op.operands]) hx he;have A:=(fQ K (x:=y) (by simp[Op.operands]) hy).1;obtain⟨D,G,H⟩:=dG hz;rcases C with⟨rfl,_⟩|⟨b,cap,u,I,L,h,_⟩
 ·simp at G
 refine VJ.value (w':=w) (v:= .pointer (some ⟨b,u.length+n.toNat*e.n,none⟩)) ?_ (XJ.same (by simp only[Slot.ok];exact⟨⟨b,_,_,_,h⟩,by rw[h];simp[Lq]⟩));have:=Cy (P:=F.P) (w:=w) (b:=b) (off:=u.length) (cap:=cap) (k:=k) hU hE D (by omega:n<(zs.length:Int));simp only[execOp,B,A,h];simp[this]
theorem jR{α β:Type}{e:Wr α}{zs:List α}{z:α}{e':Wr β}{z':β}{T U:TypeId}{i k off:Nat}(hz:zs[k]? =some z)(hx:dD σ.g x=some (.el i k e.n off))(he:aX σ.d i=some (.arr T e zs))(hp:ui e z off e' z')
  (hA:∀w,(isAgg U).run F.P w= .ok e'.agg w) (hS:∀w,(sizeOf U).run F.P w= .ok e'.n w):JO F ⟨d,.load U x,ty,p,af,gd⟩ σ (.v e' z') []:=by
 intro ρ S a w K;obtain⟨b,X,h,cs,C,h1,M,N,O,_⟩:=OW K (x:=x) (by simp[Op.operands]) hx he;obtain⟨u,c,D,rfl,Q,R,_⟩:=qT O hz;obtain⟨A,c2,E,rfl,V,G⟩:=hp S w c R;have H:VQ w b (h.length+(k*e.n+off)) c2:=by
  have B:=VQ.of_heap N;have I:h++(u++(A++(c2++E)++D)++C)=(h++u++A)++(c2++(E++D++C)):=by simp
  rw[I] at B;have:=B.sub;have L:0+(h++u++A).length=h.length+(k*e.n+off):=by simp only[sM,Q,V];omega
  rw[L] at this;exact this
 refine VJ.value (w':=w) (v:=e'.pk c2) ?_ (XJ.same (by simp only[Slot.ok];exact⟨c2,G,rfl⟩));have:=Fu (P:=F.P) H G hA hS;simp[execOp,M,Instr.loadAt,Instr.sureAddr,this]
theorem Aw(o':Nat){α:Type}{e:Wr α}{U:TypeId}{fs:Array Field}{n m i k off:Nat}{fl:Field}(hx:dD σ.g x=some (.el i k e.n off))(hU:∀w,(underlying U).run F.P w= .ok (.struct fs) w)(hf:fs[n]? =some fl)
  (hm:∀w,(sizeOf fl.type).run F.P w= .ok m w) (YS:Nat.beq m 0=false) (ho:Nat.beq (off+fl.offset) o'=true):JO F ⟨d,.fieldAddr U x n,ty,p,af,gd⟩ σ (.el i k e.n o') []:=by
 have ho:=s8 ho;subst ho;intro ρ S a w K;have h:=K.slot x (by simp[Op.operands]) _ hx;simp only[Slot.ok] at h;obtain⟨⟨b,o,l,c,u⟩,z⟩:=h;rw[u] at z;refine VJ.value (w':=w) (v:= .pointer (some ⟨b,o+(k*e.n+off)+fl.offset,none⟩)) ?_ (XJ.same (by simp only[Slot.ok];exact⟨⟨b,o,l,c,u⟩,by rw[u];simp[Lq];omega⟩));have:=Cx (P:=F.P) (w:=w) (b:=b) (off:=o+(k*e.n+off)) hU hf hm YS;simp only[execOp,z,Lq];simp[this]
theorem qY{α:Type}{e:Wr α}{zs:List α}{z z':α}{T U:TypeId}{i k:Nat}(hz:zs[k]? =some z)(hx:dD σ.g x=some (.el i k e.n 0))(he:aX σ.d i=some (.arr T e zs))(hy:dD σ.g y=some (.v e z'))
  (hS:∀w,(sizeOf U).run F.P w= .ok e.n w):JM F ⟨none,.store U x y,ty,p,af,gd⟩ σ ⟨σ.g,(i,.arr T e (zs.set k z'))::σ.d⟩:=by
 refine pZ he rfl fun ρ a w O G=>?_;have K:=cI O G (Op.store U x y).operands;obtain⟨b,S,h,cs,A,H,V,E,X,h5,h6,h7⟩:=OW K (x:=x) (by simp[Op.operands]) hx he;have D:=qV (s:= .v e z') rfl (Jv G hy);simp only[Slot.YW] at D;obtain⟨B,c,C,rfl,hl,I,l8⟩:=qT X hz;have L:h++(B++(c++C)++A)=(h++B)++(c++(C++A)):=by simp
 rw[L] at E;have M:=lA (P:=F.P) (w:=w) (U:=U) (off:=h.length+(k*e.n+0)) hS (by have:=e.len D;simp only[Z0] at this;omega) (fun u Q=>e.cell D u Q) E (by simp[hl]) (e.len I);have N:(h++B)++((a.eval y).cells.toList++(C++A))=h++((B++((a.eval y).cells.toList++C))++A):=by simp
 refine⟨b,w.setRow b ((h++B)++((a.eval y).cells.toList++(C++A))).toArray,.inl (by rw[H];rfl),Z1.setRow w b _,?_,fun R=>?_⟩
 ·exact lB V M
 ·refine .inr ⟨b,S,h,B++((a.eval y).cells.toList++C),A,by simpa using H,?_,Wr.VN (l8 z' _ D) R,by simpa using h5,?_,by simpa using h7⟩
  ·rw[<-N];exact setRow_heap w b _ _ T _ E
  ·have:=e.len D;have:=e.len I;simp only[sM] at h6 ⊢;omega
theorem Lz{P:Program}{w:World}{U E:TypeId}{m b off len:Nat}{k:IntKind}{n:Int}(hU:∀w,(underlying U).run P w= .ok (.array len E) w)(hE:∀w,(sizeOf E).run P w= .ok m w)(h0:0<=n)(h1:n<len):
  (Instr.indexAt U (.pointer (some ⟨b,off,none⟩)) (.int k n)).run P w= .ok (.pointer (some ⟨b,off+n.toNat*m,none⟩)) w:=by
 have:Addr.add ⟨b,off,none⟩ (n.toNat*m)=⟨b,off+n.toNat*m,none⟩:=Addr.add_lit _ _ _;simp[Instr.indexAt,asIntOf,hU,Instr.sureAddr,h0,h1,hE,this]
theorem rK{α:Type}{e:Wr α}{zs:List α}{T U E:TypeId}{l:List Slot}{len i off:Nat}{k:IntKind}{n:Int}{z:α}(hz:Sw.idx zs n=some z)(hx:dD σ.g x=some (.ptr i off))(he:aX σ.d i=some (.box T l pb))(ho:nI l off=some (.v (Wr.arr len e) zs))
  (hy:dD σ.g y=some (.v (Wr.int k) n)) (hU:∀w,(underlying U).run F.P w= .ok (.array len E) w) (hE:∀w,(sizeOf E).run F.P w= .ok e.n w):JO F ⟨d,.indexAddr U x y,ty,p,af,gd⟩ σ (.dw i off n.toNat e.n) []:=by
 intro ρ S a w K;obtain⟨b,H,h,B,I,C⟩:=zQ K (x:=x) (by simp[Op.operands]) hx he;have A:=(fQ K (x:=y) (by simp[Op.operands]) hy).1;obtain⟨D,L,M⟩:=dG hz;obtain⟨N,c,O,rfl,_,u,_⟩:=uZ ho C;simp only[Slot.YW] at u;have G:=u.1;refine VJ.value (w':=w) (v:= .pointer (some ⟨b,off+n.toNat*e.n,none⟩)) ?_ (XJ.same (by simp only[Slot.ok];exact⟨⟨b,h⟩,by rw[h];rfl⟩));have:=Lz (P:=F.P) (w:=w) (b:=b) (off:=off) (k:=k) hU hE D (by omega:n<(len:Int));simp only[execOp,B,A];simp[this]
theorem OB{xs:Array Operand}{ρ:Nat->LV}{S a w}(K:m7 σ xs ρ S a w)(hm:x∈xs){i off k n:Nat}{T:TypeId}{l:List Slot}(hx:dD σ.g x=some (.dw i off k n))(he:aX σ.d i=some (.box T l pb)):
  ∃b cs,(ρ i).v= .pointer (some ⟨b,0,none⟩)/\a.eval x= .pointer (some ⟨b,off+k*n,none⟩)/\w.heap[b]? =some (.cells cs.toArray T (0,0))/\bM ρ S w l cs:=by
 have h:=K.slot x hm _ hx;simp only[Slot.ok] at h;obtain⟨⟨b,u⟩,z⟩:=h;have:=(K.y9 x hm _ hx i (by simp[Slot.YF]) _ he).1;rw[u] at z;obtain⟨⟨A,cs,B,C,D⟩,_⟩:=this;have:A=b:=by rw[u] at B;simpa using B.symm
 subst this;exact⟨A,cs,u,z,C,D⟩
theorem vA{α:Type}{e:Wr α}{zs:List α}{z:α}{T U:TypeId}{l:List Slot}{len i off k:Nat}(hz:zs[k]? =some z)(hx:dD σ.g x=some (.dw i off k e.n))(he:aX σ.d i=some (.box T l pb))(ho:nI l off=some (.v (Wr.arr len e) zs))
  (hA:∀w,(isAgg U).run F.P w= .ok e.agg w) (hS:∀w,(sizeOf U).run F.P w= .ok e.n w):JO F ⟨d,.load U x,ty,p,af,gd⟩ σ (.v e z) []:=by
 intro ρ S a w K;obtain⟨b,R,V,L,M,N⟩:=OB K (x:=x) (by simp[Op.operands]) hx he;obtain⟨h,c,B,rfl,O,C,_⟩:=uZ ho N;simp only[Slot.YW] at C;obtain⟨u,c',D,rfl,Q,E,_⟩:=qT C.2 hz;have G:VQ w b (off+k*e.n) c':=by
  have A:=VQ.of_heap M;have H:h++(u++(c'++D)++B)=(h++u)++(c'++(D++B)):=by simp
  rw[H] at A;have:=A.sub;have I:0+(h++u).length=off+k*e.n:=by simp[Q,O]
  rw[I] at this;exact this
 refine VJ.value (w':=w) (v:=e.pk c') ?_ (XJ.same (by simp only[Slot.ok];exact⟨c',E,rfl⟩));have:=Fu (P:=F.P) G E hA hS;simp[execOp,L,Instr.loadAt,Instr.sureAddr,this]
theorem Db{α:Type}{e:Wr α}{zs:List α}{z z':α}{T U:TypeId}{l:List Slot}{len i off k:Nat}(hz:zs[k]? =some z)(hx:dD σ.g x=some (.dw i off k e.n))(he:aX σ.d i=some (.box T l pb))(ho:nI l off=some (.v (Wr.arr len e) zs))
  (hy:dD σ.g y=some (.v e z')) (hS:∀w,(sizeOf U).run F.P w= .ok e.n w):JM F ⟨none,.store U x y,ty,p,af,gd⟩ σ ⟨σ.g,(i,.box T (nV l off (.v (Wr.arr len e) (zs.set k z'))) pb)::σ.d⟩:=by
 refine pZ he rfl fun ρ a w H I=>?_;have K:=cI H I (Op.store U x y).operands;obtain⟨b,cs,L,V,G,X⟩:=OB K (x:=x) (by simp[Op.operands]) hx he;have D:=qV (s:= .v e z') rfl (Jv I hy);simp only[Slot.YW] at D;obtain⟨B,c,C,rfl,WR,E,h6⟩:=uZ ho X;simp only[Slot.YW] at E;obtain⟨aa,E⟩:=E;obtain⟨h,M,A,rfl,hl,N0,l8⟩:=qT E hz;have N:B++(h++(M++A)++C)=(B++h)++(M++(A++C)):=by simp
 rw[N] at G;have O:=lA (P:=F.P) (w:=w) (U:=U) (off:=off+k*e.n) hS (by have:=e.len D;simp only[Z0] at this;omega) (fun u R=>e.cell D u R) G (by simp[hl,WR]) (e.len N0);have Q:(B++h)++((a.eval y).cells.toList++(A++C))=B++((h++((a.eval y).cells.toList++A))++C):=by simp
 refine⟨b,w.setRow b ((B++h)++((a.eval y).cells.toList++(A++C))).toArray,.inl (by rw[L];rfl),Z1.setRow w b _,?_,fun S=>?_⟩
 ·exact lB V O
 ·refine⟨⟨b,B++((h++((a.eval y).cells.toList++A))++C),L,?_,?_⟩,(H.own i _ he).2⟩
  ·rw[<-Q];exact setRow_heap w b _ _ T _ G
  ·refine fO _ _ (h6 (.v (Wr.arr len e) (zs.set k z')) (h++((a.eval y).cells.toList++A)) ?_) S (fun _ _=>rfl);simp only[Slot.YW];exact⟨by simpa using aa,l8 z' _ D⟩
end
end Go.Sw
namespace Go.Sw
open Go Go.RowKit
def wE(d:List (Nat×VH))(i:Nat):List (Nat×VH):=match d with
 | []=>[]
 | (j,h)::r=>bif Nat.beq j i then wE r i else (j,h)::wE r i
theorem Lb{i k:Nat}:∀{d:List (Nat×VH)},aX (wE d i) k=if k=i then none else aX d k
 | []=>by simp[wE,aX]
 | (j,A)::r=>by
  have u:=Lb (i:=i) (k:=k) (d:=r);simp only[wE];cases hb:Nat.beq j i with
  |true=>
   have:=s8 hb;subst this;simp only[XG,u,cK];by_cases h:k=j
   ·simp[h]
   ·have:¬j=k:=fun e=>h e.symm;simp[h,this]
  |false=>
   have z:j≠i:=fun e=>by subst e;simp at hb
   simp only[pF,cK,u];by_cases h:j=k
   ·subst h;simp[z]
   ·simp[h]
structure g9 (b:Option Nat) (w w':World):Prop where
 size:w.heap.size<=w'.heap.size
 other:∀k,k<w.heap.size->some k≠b->w'.heap[k]? =w.heap[k]?
 os:w'.os=w.os
 tape:w'.tape=w.tape
 output:w'.output=w.output
theorem g9.setRow(w:World)(b:Nat)(cs:Array Value):g9 (some b) w (w.setRow b cs):=⟨by simp[World.setRow],fun k _ h=>setRow_other w b k cs (fun e=>h (by rw[e])),rfl,rfl,rfl⟩
theorem g9.refl(b:Option Nat)(w:World):g9 b w w:=⟨YO _,fun _ _ _=>rfl,rfl,rfl,rfl⟩
theorem g9.alloc(b:Option Nat)(w:World)(o:Obj):g9 b w (w.drew.alloc o):=⟨by simp,fun k h _=>heap_alloc_old w.drew o k h,rfl,rfl,rfl⟩
section
variable {F:WV}{σ:AS}{s:Slot}{d:Option Tmp}{ty:TypeId}{p:String}{af:Array Edge}{gd:Option (Nat×Bool)}{x y:Operand}
theorem Zm{ρ:Nat->LV}{a:Act}{w w':World}{i j:Nat}{en en':VH}{u:LV}(hc:Core F σ.d ρ w)(hs:∀t s,lk σ.g t=some s->s.ok ρ (Un F.S0 ρ σ.d) w (a.tmps.getD t undef))(hz:a.tmps.size=F.N)(YR:a.defers=F.df)
  (hi:aX σ.d i=some en) (hf:σ.free [(j,en')]=true) (ZP:gN d F.N=true) (hu:g9 (YN (ρ i).v) w w') (hsh:Ze u.v) (u9:en'.YF=[])
  (hb:∀b,qS u b->(qS (ρ i) b\/w.heap.size<=b)/\b<w'.heap.size)
  (F5:∀S' ρ',Ext (Un F.S0 ρ σ.d) S' w w'->en'.ok ρ' S' w' u):St F ⟨iO d (.ref j) σ.g,(j,en')::wE σ.d i⟩ (a.put d u.v) w':=by
 let ρ':Nat->LV:=fun k=>if k=j then u else ρ k
 have H:ρ' j=u:=WJ rfl;have E:∀k,k≠j->ρ' k=ρ k:=fun k h=>WA h;have U:=kV hf (i:=j) (en:=en') (by simp[aX]);have L:∀k e,aX ((j,en')::wE σ.d i) k=some e->(k=j/\e=en')\/(k≠j/\k≠i/\aX σ.d k=some e):=by
  intro k e h;rw[cK] at h;split at h
  ·rename_i z;cases h;exact .inl ⟨z.symm,rfl⟩
  ·rename_i z;rw[Lb] at h;split at h
   ·cases h
   ·rename_i B;exact .inr ⟨fun e=>z e.symm,B,h⟩
 have hU:∀k,k<w.heap.size->Un F.S0 ρ' ((j,en')::wE σ.d i) k->Un F.S0 ρ σ.d k:=by
  rintro k I (h |⟨q,e,z,B⟩)
  ·exact .inl h
  ·rcases L q e z with⟨rfl,rfl⟩|⟨A,D,M⟩
   ·rw[H] at B;rcases (hb k B).1 with h | h
    ·exact .inr ⟨i,en,hi,h⟩
    ·omega
   ·rw[E q A] at B;exact .inr ⟨q,e,M,B⟩
 have S:Ext (Un F.S0 ρ σ.d) (Un F.S0 ρ' ((j,en')::wE σ.d i)) w w':=⟨hu.size,fun k I hn=>⟨hu.other k I (fun e=>hn (.inr ⟨i,en,hi,.inl e.symm⟩)),fun h=>hn (hU k I h)⟩⟩;have ab:∀t s,lk σ.g t=some s->mM ρ ρ' s.YF:=fun t s h k I=>congrArg LV.v (E k fun e=>by subst e;exact U.1 t s h I);have V:∀k e b,k≠i->aX σ.d k=some e->qS (ρ k) b->¬qS (ρ i) b:=fun k e b h z B A=>h (hc.inj k i e en b z hi B A);refine⟨⟨ρ',⟨hc.low,db hc.size hu.size,fun k I hr=>?_,hu.os.trans hc.os,hu.tape.trans hc.tape,hu.output.trans hc.output,fun k e h=>?_,fun k e b h C=>?_,fun k O e K b h h' Q P=>?_,fun k e b h C=>?_⟩,?_⟩,by rw[kW,hz],by cases d<;>exact YR⟩
 ·rw[hu.other k (O3 I hc.size) (fun e=>?_)]
  ·exact hc.frame k I hr
  ·rcases (hc.fresh i en k hi (.inl e.symm)).1 with h | h
   ·omega
   ·exact hr h
 ·rcases L k e h with⟨rfl,rfl⟩|⟨z,B,A⟩
  ·rw[H];exact F5 _ _ S
  ·rw[E k z];refine VH.VE (hc.own k e A) S (fun q hq=>congrArg LV.v (E q fun K=>?_)) (fun b C=>hu.other b (hc.fresh k e b A C).2 (fun K=>V k e b B A C (.inl K.symm)));subst K;exact U.2.2 k e A hq
 ·rcases L k e h with⟨rfl,rfl⟩|⟨z,B,A⟩
  ·rw[H] at C;obtain⟨D,M⟩:=hb b C;refine⟨?_,M⟩;rcases D with D | D
   ·exact(hc.fresh i en b hi D).1
   ·exact .inl (db hc.size D)
  ·rw[E k z] at C;exact⟨(hc.fresh k e b A C).1,O3 (hc.fresh k e b A C).2 hu.size⟩
 ·have X:∀k e,k≠j->k≠i->aX σ.d k=some e->qS (ρ k) b->qS u b->False:=fun k e _ B A D M=>by
   rcases (hb b M).1 with h6 | h6
   ·exact V k e b B A D h6
   ·have:=(hc.fresh k e b A D).2;omega
  rcases L k e h with⟨rfl,rfl⟩|⟨z,B,A⟩
  ·rcases L O K h' with⟨rfl,rfl⟩|⟨R,r7,T⟩
   ·rfl
   ·rw[H] at Q;rw[E O R] at P;exact(X O K R r7 T P Q).elim
  ·rw[E k z] at Q;rcases L O K h' with⟨rfl,rfl⟩|⟨R,r7,T⟩
   ·rw[H] at P;exact(X k e z B A Q P).elim
   ·rw[E O R] at P;exact hc.inj k O e K b A T Q P
 ·rcases L k e h with⟨rfl,rfl⟩|⟨z,B,A⟩
  ·rw[H] at C;rcases (hb b C).1 with D | D
   ·exact hc.apart i en b hi D
   ·intro M;have:=hc.low b M;have:=hc.size;omega
  ·rw[E k z] at C;exact hc.apart k e b A C
 ·intro t s G;have aa:∀t s,lk σ.g t=some s->s.ok ρ' (Un F.S0 ρ' ((j,en')::wE σ.d i)) w' (a.tmps.getD t undef):=fun t s G=>Slot.VE s _ (hs t s G) S (ab t s G);cases d with
  |none=>exact aa t s G
  |some q=>
   simp only[iO] at G;have WZ:q<a.tmps.size:=by rw[hz];exact w7 ZP
   rw[kX a q u.v t WZ];rw[mC] at G;split at G
   ·rename_i z;cases G;rw[WJ z];simp only[Slot.ok];exact⟨by rw[H];exact hsh,by rw[H]⟩
   ·rename_i z;rw[WA z];exact aa t s G
def Src(σ:AS)(y:Operand){α:Type}(e:Wr α)(ys:List α):Prop:=∀(ρ:Nat->LV) (S:Nat->Prop) (a:Act) (w:World),m7 σ #[y] ρ S a w->
 ys.length<=140737488355328/\∃ad cap,a.eval y= .slice ad ys.length cap/\(ys=[]\/∃b off ds,ad=some ⟨b,off,none⟩/\VQ w b off ds/\e.YU ys S w ds)
theorem Src.sl{α:Type}{e:Wr α}{ys:List α}(h:dD σ.g y=some (.v (Wr.sl e) ys)):Src σ y e ys:=by
 intro ρ S a w K;have z:=K.slot y (by simp) _ h;simp only[Slot.ok] at z;obtain⟨A,B,C,D,u⟩:=sG.1 z;refine⟨D.2,A,B,C,?_⟩;rcases u with u |⟨b,E,F,G,_,_,H,I⟩
 ·exact .inl u
 ·exact .inr ⟨b,E,F,G,H,I⟩
def app{α:Type}(xs ys:List α):Option (List α):=if xs.length+ys.length<=4294967296 then some (xs++ys) else none
theorem Tr{α:Type}{xs ys zs:List α}(h:app xs ys=some zs):xs.length+ys.length<=4294967296/\zs=xs++ys:=by
 unfold app at h;split at h
 ·rename_i u;exact⟨u,by cases h;rfl⟩
 ·cases h
theorem tL{P:Program}{w:World}{U E tt:TypeId}{n:Nat}{base ad:Option Addr}{l c cap:Nat}(hU:∀w,(underlying U).run P w= .ok (.slice E) w)(hE:∀w,(sizeOf E).run P w= .ok n w)(hle:l<=cap):
  (Builtin.append_ #[U,U] tt #[.slice base l cap,.slice ad 0 c]).run P w= .ok (.slice base l cap) w:=by
 have h:(Builtin.firstCells n 0 (.slice ad 0 c)).run P w= .ok #[] w:=by
  cases ad<;>simp[Builtin.firstCells,loadCells,loadCellsFrom]
 cases base<;>simp[Builtin.append_,hU,hE,Builtin.lenOf,hle,h,storeCells]
theorem Fi{P:Program}{w:World}{U E tt:TypeId}{n g off l cap m c:Nat}{cur:List Value}{a:Addr}{news:List Value}(hU:∀w,(underlying U).run P w= .ok (.slice E) w)(hE:∀w,(sizeOf E).run P w= .ok n w)
  (hg:w.heap[g]? =some (.cells cur.toArray E (0,0))) (hl:news.length=m*n) (A5:∀j u,news[j]? =some u->w.cell? (a.add j)=some u) (h1:∀u∈news,u.oneCell'=true) (J8:l+m<=cap) (M7:off+l*n+news.length<=cur.length):
  (Builtin.append_ #[U,U] tt #[.slice (some ⟨g,off,none⟩) l cap,.slice (some a) m c]).run P w=
   .ok (.slice (some ⟨g,off,none⟩) (l+m) cap) (w.setRow g (cur.take (off+l*n)++news++cur.drop (off+l*n+news.length)).toArray):=by
 have z:=run_firstCells_some (P:=P) w n m a m c news hl A5;have h:=run_storeCells_at P g (off+l*n) E news 0 cur.toArray w hg (by simpa using M7) h1;simp only[aDg] at h;simp[Builtin.append_,hU,hE,Builtin.lenOf,J8,z,Addr.add_lit,h]
theorem bU{α:Type}{e:Wr α}{xs ys zs:List α}{T U:TypeId}{ti:TypeInfo}{z:Value}{i:Nat}(j:Nat)(ha:app xs ys=some zs)(hx:dD σ.g x=some (.ref i))(he:aX σ.d i=some (.arr T e xs))(hy:Src σ y e ys)
  (hU:∀w,(underlying U).run F.P w= .ok (.slice T) w) (hI:∀w,(typeInfo T).run F.P w= .ok ti w) (hS:∀w,(sizeOf T).run F.P w= .ok e.n w) (hz:ti.zero=some z) (hzs:z.cells.size=e.n) (T3:Nat.ble ti.bytes 4096=true)
  (hf:σ.free [(j,.arr T e zs)]=true) (hd:gN d F.N=true):
  JM F ⟨d,.call ⟨.builtin .append,#[x,y],#[U,U]⟩,ty,p,af,gd⟩ σ ⟨iO d (.ref j) σ.g,(j,.arr T e zs)::wE σ.d i⟩:=by
 obtain⟨X,rfl⟩:=Tr ha;have T3:=w7 T3;rintro a w ⟨⟨ρ,hc,hs⟩,m9,YR⟩;have K:=cI hc hs (Op.call ⟨.builtin .append,#[x,y],#[U,U]⟩).operands;have xl:ti.size=e.n:=La hI hS;obtain⟨h1,A,h3⟩:=yO K (x:=x) (by simp[Op.operands,Call.operands]) hx he;have YC:∀q,q∈#[y]->q∈(Op.call ⟨.builtin .append,#[x,y],#[U,U]⟩).operands:=by
  intro q R;have K7:q=y:=by simpa using R
  subst K7;simp[Op.operands,Call.operands]
 obtain⟨P3,ad,c,h4,h5⟩:=hy ρ _ a w ⟨K.low,fun q R s h=>K.slot q (YC q R) s h,fun q R s h=>K.y9 q (YC q R) s h⟩;have lj:∀v w',(Builtin.append_ #[U,U] ty #[(ρ i).v,.slice ad ys.length c]).run F.P w= .ok v w'->(execOp a.eval ⟨d,.call ⟨.builtin .append,#[x,y],#[U,U]⟩,ty,p,af,gd⟩).run F.P w= .ok (.value v) w':=by
  intro v w' h;simp[execOp,resolve,invoke,builtin,h1,h4,h]
 have fin:∀u w',(Builtin.append_ #[U,U] ty #[(ρ i).v,.slice ad ys.length c]).run F.P w= .ok u w'->g9 (YN (ρ i).v) w w'->Ze u->(∀b,YN u=some b->(YN (ρ i).v=some b\/w.heap.size<=b)/\b<w'.heap.size)->
   (∀C ρ',Ext (Un F.S0 ρ σ.d) C w w'->(VH.arr T e (xs++ys)).ok ρ' C w' (.of u))->
   VJ F.P ⟨d,.call ⟨.builtin .append,#[x,y],#[U,U]⟩,ty,p,af,gd⟩ a w fun v w'=>St F ⟨iO d (.ref j) σ.g,(j,.arr T e (xs++ys))::wE σ.d i⟩ (a.put d v) w':=
  fun u w' H hu ai hb F5=>VJ.value (lj u w' H) (Zm (u:= .of u) hc hs m9 YR he hf hd hu ai rfl (fun b h=>⟨(hb b (pD.1 h)).1.imp .inl id,(hb b (pD.1 h)).2⟩) F5)
 rcases h5 with rfl |⟨b,ab,D,rfl,hm,fo⟩
 ·
  rw[X1] at*;rcases A with⟨rfl,A⟩|⟨b,cap,B,cs,G,A,I,L,M,h9⟩
  ·refine fin (.slice none 0 0) w ?_ (g9.refl _ _) (.inl ⟨_,_,_,rfl⟩) (fun b h=>by simp[YN] at h) (fun _ _ _=> .inl ⟨rfl,rfl⟩);rw[A];exact tL hU hS (YO _)
  ·refine fin (ρ i).v w ?_ (g9.refl _ _) (.inl ⟨_,_,_,A⟩) (fun b h=>⟨.inl h,(h3 b (.inl h)).2⟩) (fun C ρ' E=>?_)
   ·rw[A];exact tL hU hS M
   ·exact .inr ⟨b,cap,B,cs,G,A,I,Wr.VN L E,M,h9⟩
 ·have O:=cQ fo;have K0:=hm.cell;have A4:=rI fo;have aa:∀(C:Nat->Prop) (w':World) (cs:List Value),Ext (Un F.S0 ρ σ.d) C w w'->e.YU xs (Un F.S0 ρ σ.d) w cs->e.YU (xs++ys) C w' (cs++D):=fun C w' cs E h=>gI (Wr.VN h E) (Wr.VN fo E);have mq:∀q,(Builtin.zeroCells z.cells q).toList.length=q*e.n:=fun q=>by rw[Z0,size_zeroCells,hzs]
  by_cases ac:ys.length=0
  ·
   have ae:ys=[]:=fy ac;subst ae;rw[X1] at*;rcases A with⟨rfl,A⟩|⟨V,cap,B,cs,G,A,I,L,M,h9⟩
   ·refine fin (.slice none 0 0) w ?_ (g9.refl _ _) (.inl ⟨_,_,_,rfl⟩) (fun b h=>by simp[YN] at h) (fun _ _ _=> .inl ⟨rfl,rfl⟩);rw[A];exact tL hU hS (YO _)
   ·refine fin (ρ i).v w ?_ (g9.refl _ _) (.inl ⟨_,_,_,A⟩) (fun b h=>⟨.inl h,(h3 b (.inl h)).2⟩) (fun C ρ' E=>?_)
    ·rw[A];exact tL hU hS M
    ·exact .inr ⟨V,cap,B,cs,G,A,I,Wr.VN L E,M,h9⟩
  rcases A with⟨rfl,A⟩|⟨g,cap,B,cs,G,A,I,L,M,h9,R3⟩
  ·
   have H:=run_append_nil (P:=F.P) w U ty T ti z (qX hU) (uB hI) hz ⟨b,ab,none⟩ ys.length c D (by rw[xl];exact O) K0 (by omega) (by simp at X;omega) (by
    have:ys.length*ti.bytes<=4294967296*4096:=aCu (by simp at X;omega) T3
    omega)
   have fm:=grownCap_ge w ys.length 0 T;refine fin _ _ (by rw[A];exact H) (g9.alloc _ _ _) (.inl ⟨_,_,_,rfl⟩) (fun V h=>?_) (fun C ρ' E=>?_)
   ·simp only[YN,A7] at h;subst h;exact⟨.inr (YO _),by simp⟩
   ·have jn:=aa C _ [] E rfl;simp only[Y7] at jn ⊢;refine .inr ⟨w.heap.size,_,[],D,(Builtin.zeroCells z.cells (grownCap w ys.length 0 T - ys.length)).toList,rfl,?_,jn,fm,?_,by simp at X;omega⟩
    ·rw[show w.heap.size=w.drew.heap.size from rfl,heap_alloc_new];simp
    ·rw[O,mq,<-I6];exact ug _ (by omega)
  ·by_cases S:xs.length+ys.length<=cap
   ·
    have Q:=cQ L;have M7:B.length+xs.length*e.n+D.length<=(B++(cs++G)).length:=by
     have:(xs.length+ys.length)*e.n<=cap*e.n:=ug _ S;rw[I6] at this;simp only[sM];omega
    have H:=Fi (P:=F.P) (w:=w) (tt:=ty) (cap:=cap) (c:=c) hU hS I (by exact O) K0 A4 S M7;have e1:(B++(cs++G)).take (B.length+xs.length*e.n)=B++cs:=by
     rw[<-A8,<-Q,<-sM];exact yv
    have e2:(B++(cs++G)).drop (B.length+xs.length*e.n+D.length)=G.drop D.length:=by
     rw[<-A8,<-Q,<-sM,aD5];simp
    rw[e1,e2] at H;refine fin _ _ (by rw[A];exact H) (by rw[A];exact g9.setRow w g _) (.inl ⟨_,_,_,rfl⟩) (fun V h=>?_) (fun C ρ' E=>?_)
    ·rw[A];simp only[YN,A7] at h ⊢;subst h;exact⟨.inl rfl,by have:=(VQ.of_heap I).lt;simpa[World.setRow] using this⟩
    ·refine .inr ⟨g,cap,B,cs++D,G.drop D.length,by simp[LV.of],?_,aa C _ cs E L,by simpa using S,?_,by simp;omega⟩
     ·have:=setRow_heap w g _ (B++cs++D++G.drop D.length).toArray T _ I;rw[this];simp
     ·have:(xs.length+ys.length)*e.n<=cap*e.n:=ug _ S;rw[I6] at this;simp only[sM,R6];omega
   ·
    have Q:=cQ L;have ah:VQ w g B.length cs:=by have:=(VQ.of_heap I).sub;simpa using this
    have H:=run_append_grow (P:=F.P) w U ty T ti z (qX hU) (uB hI) hz ⟨g,B.length,none⟩ xs.length cap cs (by rw[xl];exact Q) ah.cell ⟨b,ab,none⟩ ys.length c D (by rw[xl];exact O) K0 (by omega) (by omega) (growslice_fits (by omega) (by
     have:(xs.length+ys.length)*ti.bytes<=4294967296*4096:=aCu X T3
     omega))
    have fm:=grownCap_ge w (xs.length+ys.length) cap T;refine fin _ _ (by rw[A];exact H) (g9.alloc _ _ _) (.inl ⟨_,_,_,rfl⟩) (fun V h=>?_) (fun C ρ' E=>?_)
    ·simp only[YN,A7] at h;subst h;exact⟨.inr (YO _),by simp⟩
    ·refine .inr ⟨w.heap.size,grownCap w (xs.length+ys.length) cap T,[],cs++D,(Builtin.zeroCells z.cells (grownCap w (xs.length+ys.length) cap T - (xs.length+ys.length))).toList,by simp[LV.of],?_,aa C _ cs E L,by simpa using fm,?_,by simp;omega⟩
     ·rw[show w.heap.size=w.drew.heap.size from rfl,heap_alloc_new];have:cs.toArray++D.toArray++Builtin.zeroCells z.cells (grownCap w (xs.length+ys.length) cap T - (xs.length+ys.length))=
        ([]++((cs++D)++(Builtin.zeroCells z.cells (grownCap w (xs.length+ys.length) cap T - (xs.length+ys.length))).toList)).toArray:=by
       apply Array.ext';simp
      rw[this]
     ·rw[sM,Q,O,mq,<-I6,<-I6];exact ug _ (by omega)
end
end Go.Sw
namespace Go.Sw
open Go Go.RowKit
theorem Jy:∀(vs:List Value) (k off:Nat) (cs:Array Value),off+k+vs.length<=cs.size->
  ((vs.zipIdx k).foldl (fun cs (x:Value×Nat)=>cs.setIfInBounds (off+x.2) x.1) cs).toList=cs.toList.take (off+k)++vs++cs.toList.drop (off+k+vs.length)
 | [],k,off,cs,_=>by simp
 |v::vs,k,off,cs,h=>by
  simp only[aCk,R5];rw[Jy vs (k+1) off _ (by simp at h ⊢;omega)];have u:off+k<cs.toList.length:=by simp at h ⊢;omega
  simp only[Array.toList_setIfInBounds];have z:off+(k+1)=off+k+1:=by omega
  rw[z,List.take_set,List.drop_set_of_lt (by omega)];have A:(cs.toList.take (off+k+1)).set (off+k) v=cs.toList.take (off+k)++[v]:=by
   rw[List.take_succ_eq_append_getElem u,List.set_append_right _ _ (by rw[C0];omega)];have:off+k - (cs.toList.take (off+k)).length=0:=by rw[C0];omega
   rw[this];rfl
  rw[A];simp only[D2,A8,aD3];congr 3;omega
theorem Ea{place:Nat->Option (Nat×Nat)}{cells:Array Value}{i off n:Nat}{v:Value}{rest:List (Nat×Value)}{a c e:List Value}(hp:place i=some (off,n))(hn:v.cells.size=n)(hc:cells.toList=a++(c++e))(ha:a.length=off)(hl:c.length=n):
  Instr.fill place cells ((i,v)::rest)=Instr.fill place (a++(v.cells.toList++e)).toArray rest:=by
 have A:cells.size=a.length+(c.length+e.length):=by rw[<-Z0,hc];simp
 have h:¬(v.cells.size≠n || decide (off+v.cells.size>cells.size))=true:=by
  simp only[yx,aC1,not_or];omega
 simp only[Instr.fill,hp];rw[WA h];congr 1;apply Array.ext';have:=Jy v.cells.toList 0 off cells (by simp;omega);simp only[aDg] at this;rw[<-aEg,Array.toList_zipIdx,this,hc];have u:(a++(c++e)).take off=a:=by rw[<-ha];exact yv
 have z:(a++(c++e)).drop (off+v.cells.toList.length)=e:=by
  rw[<-A8];have:off+v.cells.toList.length=(a++c).length:=by simp;omega
  rw[this];exact pv
 rw[u,z];simp
section
variable {F:WV}{σ:AS}{s:Slot}{d:Option Tmp}{ty:TypeId}{p:String}{af:Array Edge}{gd:Option (Nat×Bool)}{x y:Operand}
def Rj(l:List Slot)(p q:Nat)(new:List Slot):List Slot:=l.take p++(new++l.drop (p+q))
def FH(l:List Slot):Nat:=(l.map Slot.sz).sum
theorem Lc{ρ:Nat->LV}{S:Nat->Prop}{w:World}:∀{l:List Slot} {cs:List Value},bM ρ S w l cs->cs.length=FH l:=by
 intro l
 induction l with
 |nil=>intro cs h;simp only[bM] at h;simp[h,FH]
 |cons t l A=>
  intro cs h;simp only[bM] at h;obtain⟨c,d,rfl,u,z⟩:=h;rw[sM,nL u,A z];simp[FH]
theorem BZ{ρ:Nat->LV}{S:Nat->Prop}{w:World}:∀{l:List Slot} {cs:List Value},l.all Slot.plain=true->bM ρ S w l cs->∀u∈cs,u.oneCell'=true:=by
 intro l
 induction l with
 |nil=>intro cs _ h;simp only[bM] at h;simp[h]
 |cons t l D=>
  intro cs A h u z;simp only[bM] at h;obtain⟨c,d,rfl,B,C⟩:=h;simp only[List.all_cons,D1] at A;rcases K9.1 z with z | z
  ·exact Gx B u z (fun e=>by subst e;cases A.1)
  ·exact D A.2 C u z
theorem Ma{ρ:Nat->LV}{S:Nat->Prop}{w:World}{l new:List Slot}{p q off n:Nat}{cs:List Value}(h1:Nat.beq (FH (l.take p)) off=true)(h2:Nat.beq (FH ((l.drop p).take q)) n=true)(h:bM ρ S w l cs):
  ∃a c d,cs=a++(c++d)/\a.length=off/\c.length=n/\∀c',bM ρ S w new c'->bM ρ S w (Rj l p q new) (a++(c'++d)):=by
 replace h1:=s8 h1;replace h2:=s8 h2;rw[<-X2 p l,xJ] at h;obtain⟨a,e,rfl,u,z⟩:=h;rw[<-X2 q (l.drop p),xJ,aDx] at z;obtain⟨c,d,rfl,B,C⟩:=z;refine⟨a,c,d,rfl,by rw[Lc u,h1],by rw[Lc B,h2],fun c' A=>?_⟩;unfold Rj;rw[xJ];exact⟨a,c'++d,rfl,u,xJ.2 ⟨c',d,rfl,A,C⟩⟩
inductive K5 (σ:AS) (pl:Array (Nat×Nat)):List Slot->List (Nat×Operand)->List Slot->Prop
 |nil {l:List Slot}:K5 σ pl l [] l
 |cons {l l':List Slot} {i off n:Nat} {x:Operand} {s s0:Slot} {rest:List (Nat×Operand)}:pl[i]? =some (off,n)->Arg σ false x s->s.plain=true->s.sz=n->nI l off=some s0->s0.sz=n->K5 σ pl (nV l off s) rest l'->K5 σ pl l ((i,x)::rest) l'
 |agg {l l' new:List Slot} {i off n:Nat} {x:Operand} {rest:List (Nat×Operand)} (p q:Nat):pl[i]? =some (off,n)->dD σ.g x=some (.agg new)->new.all Slot.plain=true->Nat.beq (FH new) n=true->Nat.beq (FH (l.take p)) off=true->Nat.beq (FH ((l.drop p).take q)) n=true->K5 σ pl (Rj l p q new) rest l'->K5 σ pl l ((i,x)::rest) l'
theorem K5.spec{pl:Array (Nat×Nat)}{l l':List Slot}{ps:List (Nat×Operand)}(h:K5 σ pl l ps l'){ρ S a w}{ys:Array Operand}(Z9:∀x∈ps.map (·.2),x∈ys)(K:m7 σ ys ρ S a w):
  ∀cs:List Value,bM ρ S w l cs->∃ds:List Value,Instr.fill (pl[·]?) cs.toArray (ps.map fun q=>(q.1,a.eval q.2))=some ds.toArray/\bM ρ S w l' ds:=by
 induction h with
 |nil=>intro cs h;exact⟨cs,rfl,h⟩
 |cons L M T A N O _ P=>
  rename_i l l' i V n x s s0 X _;intro cs C
  have z:=M ρ S a w ⟨K.low,fun y u s h=>K.slot y (Z9 y (by
   have:y=x:=by simpa using u
   subst this;simp)) s h,fun y u s h=>K.y9 y (Z9 y (by
    have:y=x:=by simpa using u
    subst this;simp)) s h⟩
  simp only[O2,ZW] at z;have B:=qV T z;obtain⟨D,c,E,rfl,F,k1,G⟩:=uZ N C;obtain⟨ds,H,I⟩:=P (fun y u=>Z9 y (by simp only[E5,m5];exact .inr u)) _ (G s _ B);refine⟨ds,?_,I⟩;rw[E5,Ea (a:=D) (c:=c) (e:=E) L (by have:=nL B;simp only[Z0] at this;rw[this];exact A) (by simp) F (by rw[nL k1];exact O)];exact H
 |agg p q L M T A N O _ P=>
  rename_i l l' aa i V n x X _;intro cs C;replace A:=s8 A;have z:=K.slot x (Z9 x (by simp)) _ M;simp only[Slot.ok] at z;obtain⟨c',Q,R⟩:=z;obtain⟨D,c,E,rfl,F,B,G⟩:=Ma N O C;obtain⟨ds,H,I⟩:=P (fun y u=>Z9 y (by simp only[E5,m5];exact .inr u)) _ (G c' R);refine⟨ds,?_,I⟩;have U:(a.eval x).cells.toList=c':=by rw[Q];simp[Value.cells]
  rw[E5,Ea (a:=D) (c:=c) (e:=E) L (by rw[Q];simp[Value.cells,Lc R,A]) (by simp) F B,U];exact H
theorem bR{T:TypeId}{pl:Array (Nat×Nat)}{zs:List Value}{ps:List (Nat×Operand)}{l l':List Slot}(hB:∀parts,F.P.built T parts=Instr.fill (pl[·]?) zs.toArray parts)(hz:Zr zs l)(hp:K5 σ pl l ps l'):
  JO F ⟨d,.build T ps.toArray,ty,p,af,gd⟩ σ (.agg l') []:=by
 intro ρ S a w K;obtain⟨h,z,A⟩:=hp.spec (ys:=(Op.build T ps.toArray).operands) (by intro x u;simp[Op.operands] at u ⊢;exact u) K zs (hz ρ S w);refine VJ.value (w':=w) (v:= .agg h.toArray) ?_ (XJ.same (by simp only[Slot.ok];exact⟨h,rfl,A⟩));have:=run_build (P:=F.P) w T (ps.map fun q=>(q.1,a.eval q.2)).toArray h.toArray (by rw[hB];exact z);simp only[execOp,aDa];simp[this]
inductive B0 (σ:AS) {α:Type} (e:Wr α):Nat->List (Nat×Operand)->List α->Prop
 |nil {k:Nat}:B0 σ e k [] []
 |cons {k:Nat} {x:Operand} {z:α} {ps:List (Nat×Operand)} {zs:List α}:Arg σ false x (.v e z)->B0 σ e (k+1) ps zs->B0 σ e k ((k,x)::ps) (z::zs)
theorem B0.spec{α:Type}{e:Wr α}{k:Nat}{ps:List (Nat×Operand)}{zs:List α}(h:B0 σ e k ps zs){ρ S a w}{ys:Array Operand}(Z9:∀x∈ps.map (·.2),x∈ys)(K:m7 σ ys ρ S a w):
  ∀pre rest:List Value,pre.length=k*e.n->rest.length=ps.length*e.n->∃ds:List Value,Instr.fill (fun i=>some (i*e.n,e.n)) (pre++rest).toArray (ps.map fun q=>(q.1,a.eval q.2))=some (pre++ds).toArray/\e.YU zs S w ds:=by
 induction h with
 |nil=>intro pre rest D E;simp at E;subst E;exact⟨[],rfl,rfl⟩
 |cons D _ L=>
  rename_i k x z ps zs _;intro pre rest F G
  have C:=D ρ S a w ⟨K.low,fun y u s h=>K.slot y (Z9 y (by
   have:y=x:=by simpa using u
   subst this;simp)) s h,fun y u s h=>K.y9 y (Z9 y (by
    have:y=x:=by simpa using u
    subst this;simp)) s h⟩
  simp only[O2,ZW] at C;have A:=qV (s:= .v e z) rfl C;simp only[Slot.YW] at A;have B:=e.len A;simp only[D2,I6,po] at G;obtain⟨ds,H,I⟩:=L (fun y u=>Z9 y (by simp only[E5,m5];exact .inr u)) (pre++(a.eval x).cells.toList) (rest.drop e.n) (by rw[sM,F,B,I6,po]) (by rw[R6];omega);refine⟨(a.eval x).cells.toList++ds,?_,⟨_,_,rfl,A,I⟩⟩;rw[E5,Ea (a:=pre) (c:=rest.take e.n) (e:=rest.drop e.n) rfl (by simp only[Z0] at B;exact B) (by simp) F (by rw[C0];omega)];simpa[A8] using H
theorem KS{P:Program}{w:World}{U E:TypeId}{n len:Nat}{z:Value}{parts:Array (Nat×Value)}{R:List Value->Prop}(hU:∀w,(underlying U).run P w= .ok (.slice E) w)(hS:∀w,(sizeOf E).run P w= .ok n w)(hz:∀w,(zeroValue E).run P w= .ok z w)
  (hle:len*n<=16777216) (hf:∀rest:List Value,rest.length=len*n->∃ds:List Value,Instr.fill (fun i=>some (i*n,n)) rest.toArray parts.toList=some ds.toArray/\R ds):
  ∃ds:List Value,R ds/\(Instr.buildSlice U len parts).run P w= .ok (.slice (some ⟨w.heap.size,0,none⟩) len len) (w.alloc (.cells ds.toArray E)):=by
 have C:¬(16777216<len*n):=by omega
 have D:∀A:Array Value,∃ds:List Value,R ds/\Instr.fill (fun i=>some (i*n,n)) ((Array.range (len*n)).map (A[·% A.size]!)) parts.toList=some ds.toArray:=by
  intro A;obtain⟨ds,B,h⟩:=hf ((Array.range (len*n)).map (A[·% A.size]!)).toList (by simp);exact⟨ds,h,by rw[<-B]⟩
 obtain⟨ds,B,h⟩:=D (if len*n=0 then #[] else z.cells);refine⟨ds,B,?_⟩;unfold Instr.buildSlice;simp only[Sem.run_bind,hU,hS,Result.andThen_ok];rw[WA (by simpa using C)];by_cases u:len*n=0
 ·rw[WJ u] at h;simp only[Sem.run_bind,Sem.run_pure,Result.andThen_ok,u,ZU];rw[u] at h;rw[h];simp[newRow]
 ·rw[WA u] at h;simp only[Sem.run_bind,Sem.run_pure,Result.andThen_ok,u,ZW,hz];rw[h];simp[newRow]
theorem Jz(w:World)(ds:List Value)(E:TypeId):VQ (w.alloc (.cells ds.toArray E)) w.heap.size 0 ds:=VQ.of_heap (T:=E) (fr:=(0,0)) (heap_alloc_new _ _)
theorem Rk{α:Type}{e:Wr α}{U E:TypeId}{len:Nat}{z:Value}{ps:List (Nat×Operand)}{zs:List α}{ρ S a w}(hU:∀w,(underlying U).run F.P w= .ok (.slice E) w)(hS:∀w,(sizeOf E).run F.P w= .ok e.n w)(hz:∀w,(zeroValue E).run F.P w= .ok z w)
  (hle:Nat.ble (len*e.n) 16777216=true) (hl:ps.length=len) (he:B0 σ e 0 ps zs) (K:m7 σ (Op.buildSlice U len ps.toArray).operands ρ S a w):
  ∃ds:List Value,e.YU zs S w ds/\(execOp a.eval ⟨d,.buildSlice U len ps.toArray,ty,p,af,gd⟩).run F.P w= .ok (.value (.slice (some ⟨w.heap.size,0,none⟩) len len)) (w.alloc (.cells ds.toArray E)):=by
 obtain⟨ds,h,u⟩:=KS (P:=F.P) (w:=w) (U:=U) (len:=len) (parts:=(ps.map fun q=>(q.1,a.eval q.2)).toArray) (R:=fun ds=>e.YU zs S w ds) hU hS hz (w7 hle) (fun B C=>by
  obtain⟨ds,h,u⟩:=he.spec (ys:=(Op.buildSlice U len ps.toArray).operands) (by intro x A;simp[Op.operands] at A ⊢;exact A) K [] B (by simp) (by rw[hl];exact C)
  exact⟨ds,by simpa using h,u⟩)
 refine⟨ds,h,?_⟩;simp only[execOp,aDa];simp[u]
theorem dI{α:Type}{e:Wr α}{U E:TypeId}{len:Nat}{z:Value}{ps:List (Nat×Operand)}{zs:List α}(hU:∀w,(underlying U).run F.P w= .ok (.slice E) w)(hS:∀w,(sizeOf E).run F.P w= .ok e.n w)(hz:∀w,(zeroValue E).run F.P w= .ok z w)
  (hle:Nat.ble (len*e.n) 16777216=true) (hl:ps.length=len) (T1:zs.length=len) (hb:Nat.ble len 16777216=true) (he:B0 σ e 0 ps zs):JO F ⟨d,.buildSlice U len ps.toArray,ty,p,af,gd⟩ σ (.v (Wr.sl e) zs) []:=by
 intro ρ S a w K;obtain⟨u,C,D⟩:=Rk (d:=d) (ty:=ty) (p:=p) (af:=af) (gd:=gd) hU hS hz hle hl he K;have A:=lF w (.cells u.toArray E);have B:Ext S (Un S ρ []) w (w.alloc (.cells u.toArray E)):=rJ A fun k _ h=>by
  rcases h with h |⟨i,G,h,_⟩
  ·exact h
  ·simp[aX] at h
 refine VJ.value D ⟨ρ,fun _ _=>rfl,A,?_,⟨fun _ _ h=>by simp[aX] at h,fun _ _ _ h=>by simp[aX] at h,fun _ _ _ _ _ h=>by simp[aX] at h⟩⟩;simp only[Slot.ok];have hb:=w7 hb;refine sG.2 ⟨_,len,by rw[T1],⟨by omega,by omega⟩,.inr ⟨w.heap.size,0,u,rfl,by simp,?_,Jz w u E,Wr.VN C B⟩⟩;rintro (h |⟨i,G,h,_⟩)
 ·have:=K.low _ h;omega
 ·simp[aX] at h
theorem rL{α:Type}{e:Wr α}{U E:TypeId}{len:Nat}{z:Value}{ps:List (Nat×Operand)}{zs:List α}(i:Nat)(hU:∀w,(underlying U).run F.P w= .ok (.slice E) w)(hS:∀w,(sizeOf E).run F.P w= .ok e.n w)(hz:∀w,(zeroValue E).run F.P w= .ok z w)
  (hle:Nat.ble (len*e.n) 16777216=true) (hl:ps.length=len) (T1:zs.length=len) (hb:Nat.ble len 16777216=true) (he:B0 σ e 0 ps zs):JO F ⟨d,.buildSlice U len ps.toArray,ty,p,af,gd⟩ σ (.ref i) [(i,.arr E e zs)]:=by
 intro ρ S a w K;obtain⟨B,u,C⟩:=Rk (d:=d) (ty:=ty) (p:=p) (af:=af) (gd:=gd) hU hS hz hle hl he K;have hb:=w7 hb;refine VJ.value C (zO (.slice (some ⟨w.heap.size,0,none⟩) len len) (lF _ _) rfl ?_ ?_ ?_)
 ·intro b h;simp only[YN,A7] at h;subst h;exact⟨YO _,by simp⟩
 ·intro A ρ' h _;refine .inr ⟨w.heap.size,len,[],B,[],by rw[T1];rfl,?_,Wr.VN u (Re (lF _ _) h),by omega,?_,by omega⟩
  ·rw[heap_alloc_new];simp
  ·have:=cQ u;rw[T1] at this;simp[this]
 ·intro A ρ' _ hi _;simp only[Slot.ok];exact⟨by rw[hi];exact .inl ⟨_,_,_,rfl⟩,hi.symm⟩
def mk{α:Type}(n:Int)(z:α):Option (List α):=if 0<=n/\n<=4294967296 then some (List.replicate n.toNat z) else none
theorem Zn{α:Type}{n:Int}{z:α}{zs:List α}(h:mk n z=some zs):0<=n/\n<=4294967296/\zs=List.replicate n.toNat z:=by
 unfold mk at h;split at h
 ·rename_i u;exact⟨u.1,u.2,by cases h;rfl⟩
 ·cases h
theorem FI{α:Type}{e:Wr α}{z:α}{zc:Array Value}(hz:∀S w,e.ok z S w zc.toList)(m:Nat)(S:Nat->Prop)(w:World):e.YU (List.replicate m z) S w (madeCells zc (m*e.n)).toList:=by
 have E:zc.size=e.n:=by have:=e.len (hz S w);simpa using this
 have C:(madeCells zc (m*e.n)).toList=(List.replicate m zc.toList).flatten:=by
  induction m with
  |zero=>simp[madeCells,Array.range_zero']
  |succ m B=>
   rw[List.replicate_succ',List.flatten_append,<-B];apply yz;intro i;simp only[madeCells,Array.toList_map,List.getElem?_append,ka,jx,Z0,Array.size_range,Array.getElem?_toList];by_cases D:i<m*e.n
   ·have h:i<(m+1)*e.n:=by rw[I6];omega
    simp[D,h]
   ·rw[WA D];by_cases h:i<(m+1)*e.n
    ·have u:i - m*e.n<zc.size:=by rw[I6,po] at h;omega
     have A:i % zc.size=i - m*e.n:=by
      have G:zc.size*m=m*e.n:=by rw[E,aEd e.n m]
      have F:i % zc.size=((i - m*e.n)+zc.size*m) % zc.size:=by congr 1;omega
      rw[F,Nat.add_mul_mod_self_left,N2 u]
     simp[h,A,u]
    ·have u:zc.size<=i - m*e.n:=by rw[I6,po] at h;omega
     have A:(Array.range ((m+1)*e.n))[i]? =none:=by simp;omega
     simp[A,u]
 rw[C];clear C
 induction m with
 |zero=>rfl
 |succ m B=>rw[aDr,aDr,aC0];exact⟨_,_,rfl,hz S w,B⟩
theorem OX{α:Type}{e:Wr α}{z:α}{zs:List α}{U E:TypeId}{ti:TypeInfo}{zv:Value}{k k':IntKind}{n:Int}{ρ S a w}(hm:mk n z=some zs)(hx:dD σ.g x=some (.v (Wr.int k) n))(hy:dD σ.g y=some (.v (Wr.int k') n))(hU:∀w,(underlying U).run F.P w= .ok (.slice E) w)
  (hI:∀w,(typeInfo E).run F.P w= .ok ti w) (hS:∀w,(sizeOf E).run F.P w= .ok e.n w) (hz:ti.zero=some zv) (T3:Nat.ble ti.bytes 4096=true) (K:m7 σ (Op.makeSlice U x y).operands ρ S a w):
  (execOp a.eval ⟨d,.makeSlice U x y,ty,p,af,gd⟩).run F.P w= .ok (.value (.slice (some ⟨w.heap.size,0,none⟩) n.toNat n.toNat)) (w.alloc (.cells (madeCells zv.cells (n.toNat*e.n)).toList.toArray E)):=by
 obtain⟨h,A,rfl⟩:=Zn hm;have hx:=(fQ K (x:=x) (by simp[Op.operands]) hx).1;have hy:=(fQ K (x:=y) (by simp[Op.operands]) hy).1;have T3:=w7 T3;have u:=La hI hS
 have:=run_make (P:=F.P) w U E ti zv (qX hU) (uB hI) hz k k' n n h (yu _) (by
  have:(ti.bytes:Int)*n<=4096*4294967296:=Int.mul_le_mul (by omega) A h (by omega)
  omega) (by omega)
 rw[u] at this;simp[execOp,hx,hy,this]
theorem Xb{α:Type}{e:Wr α}{z:α}{zs:List α}{U E:TypeId}{ti:TypeInfo}{zv:Value}{k k':IntKind}{n:Int}(i:Nat)(hm:Sw.mk n z=some zs)(hx:dD σ.g x=some (.v (Wr.int k) n))(hy:dD σ.g y=some (.v (Wr.int k') n))(hU:∀w,(underlying U).run F.P w= .ok (.slice E) w)
  (hI:∀w,(typeInfo E).run F.P w= .ok ti w) (hS:∀w,(sizeOf E).run F.P w= .ok e.n w) (hz:ti.zero=some zv) (T3:Nat.ble ti.bytes 4096=true) (dy:∀S w,e.ok z S w zv.cells.toList):JO F ⟨d,.makeSlice U x y,ty,p,af,gd⟩ σ (.ref i) [(i,.arr E e zs)]:=by
 intro ρ S a w K;have u:=OX (d:=d) (ty:=ty) (p:=p) (af:=af) (gd:=gd) hm hx hy hU hI hS hz T3 K;obtain⟨B,C,rfl⟩:=Zn hm;refine VJ.value u (zO (.slice (some ⟨w.heap.size,0,none⟩) n.toNat n.toNat) (lF _ _) rfl ?_ ?_ ?_)
 ·intro b h;simp only[YN,A7] at h;subst h;exact⟨YO _,by simp⟩
 ·intro A ρ' h _;refine .inr ⟨w.heap.size,n.toNat,[],(madeCells zv.cells (n.toNat*e.n)).toList,[],by simp[LV.of],?_,FI dy _ _ _,by simp,?_,by simp;omega⟩
  ·rw[heap_alloc_new];simp
  ·simp[size_madeCells]
 ·intro A ρ' _ hi _;simp only[Slot.ok];exact⟨by rw[hi];exact .inl ⟨_,_,_,rfl⟩,hi.symm⟩
end
end Go.Sw
namespace Go.Sw
open Go Go.RowKit
def T8{α:Type}(n:Nat)(P:Program)(T:TypeId)(e:Wr α):Prop:=∀d,n<=d->∀(w:World) (S S':Nat->Prop) (w1 w2:World) (x y:α) (cs ds:List Value),e.ok x S w1 cs->e.ok y S' w2 ds->
 ∃r,(Op.equalIn d T (e.pk cs) (e.pk ds)).run P w= .ok r w/\(r=true↔x=y)
theorem T8.int{P:Program}{T:TypeId}{k k':IntKind}(h:P.underlying T=some (.int k')):T8 1 P T (Wr.int k):=by
 intro d A w S B C D x y E F u z;obtain⟨d,rfl⟩:∃d',d=d'+1:=⟨d - 1,by omega⟩;rw[u.1,z.1];exact⟨x==y,run_equalIn_int w d T k k' x y h,by simp⟩
theorem Xc{α:Type}{P:Program}{e:Wr α}{x:α}{S w w0}{a c b:List Value}{T:TypeId}{off:Nat}(ho:e.ok x S w0 c)(ha:a.length=off)(hA:∀w,(isAgg T).run P w= .ok e.agg w)(hS:∀w,(sizeOf T).run P w= .ok e.n w):
  (part T (a++(c++b)).toArray off).run P w= .ok (e.pk c) w:=by
 have h:=e.len ho;unfold part;simp only[Sem.run_bind,hA,Result.andThen_ok];cases E7:e.agg with
 |true=>
  simp only[ZU,Sem.run_bind,hS,Result.andThen_ok,Sem.run_pure,Wr.pk,E7];congr 2;simp only[List.extract_toArray,List.extract_eq_take_drop];rw[<-ha,pv];have:a.length+e.n - a.length=c.length:=by omega
  rw[this,yv]
 |false=>
  rw[e.one E7] at h;obtain⟨v,rfl⟩:=aCf.1 h;have:(a++([v]++b)).toArray[off]? =some v:=by simp[<-ha]
  simp only[O2,ZW,this,Sem.run_pure,Wr.pk,E7];rfl
theorem Pm{α:Type}{n d:Nat}{P:Program}{E:TypeId}{e:Wr α}(hd:n<=d)(he:T8 n P E e)(hA:∀w,(isAgg E).run P w= .ok e.agg w)(hS:∀w,(sizeOf E).run P w= .ok e.n w){S S':Nat->Prop}{w1 w2:World}:
  ∀(xs ys:List α) (k:Nat) (pre mm cs ds:List Value) (w:World),xs.length=ys.length->pre.length=k*e.n->mm.length=k*e.n->e.YU xs S w1 cs->e.YU ys S' w2 ds->
   ∃r,(Op.eqItems d E e.n (pre++cs).toArray (mm++ds).toArray (List.range' k xs.length)).run P w= .ok r w/\(r=true↔xs=ys)
 | [],ys,k,pre,mm,cs,ds,w,u,_,_,_,_=>by
  have:ys=[]:=fy (by simpa using u.symm);subst this;exact⟨true,by simp[Op.eqItems],by simp⟩
 |x::xs,[],k,pre,mm,cs,ds,w,u,_,_,_,_=>by simp at u
 |x::xs,y::ys,k,pre,mm,cs,ds,w,u,C,D,⟨c,K,L,z,M⟩,⟨q,N,O,A,Q⟩=>by
  subst L;subst O;obtain⟨r,F,B⟩:=he d hd w S S' w1 w2 x y c q z A;obtain⟨G,H,I⟩:=Pm hd he hA hS xs ys (k+1) (pre++c) (mm++q) K N w (by simpa using u) (by rw[sM,C,e.len z,I6,po]) (by rw[sM,D,e.len A,I6,po]) M Q;simp only[D2,List.range'_succ,Op.eqItems,Sem.run_bind,Xc (P:=P) (w:=w) z C hA hS,Xc (P:=P) (w:=w) A D hA hS,Result.andThen_ok,F];cases r
  ·refine⟨false,by simp,?_⟩;simp only[O2,false_iff,aEw,not_and];intro h;exact absurd (B.2 h) (by simp)
  ·refine⟨G,by simpa using H,?_⟩;rw[I];simp[B.1 rfl]
theorem T8.arr{α:Type}{n m:Nat}{P:Program}{T E:TypeId}{e:Wr α}(hT:∀w,(underlying T).run P w= .ok (.array m E) w)(hI:∀w,(sizeOf E).run P w= .ok e.n w)(hA:∀w,(isAgg E).run P w= .ok e.agg w)(he:T8 n P E e):T8 (n+1) P T (Wr.arr m e):=by
 intro d H w S I K L x y u z h A;obtain⟨d,rfl⟩:∃d',d=d'+1:=⟨d - 1,by omega⟩;obtain⟨i,B,D⟩:∃i,P.info? E=some i/\i.size=e.n:=by
  have:=hI default;unfold sizeOf typeInfo at this;simp only[Sem.run_bind,run_program,Result.andThen_ok] at this;cases hq:P.info? E with
  |none=>rw[hq] at this;simp at this
  |some i=>rw[hq] at this;simp at this;exact⟨i,rfl,this⟩
 have C:P.cellsOf E=e.n:=by unfold Program.cellsOf;rw[B];exact D
 obtain⟨r,F,G⟩:=Pm (d:=d) (by omega) he hA hI x y 0 [] [] u z w (by rw[h.1,A.1]) (by simp) (by simp) h.2 A.2;refine⟨r,?_,G⟩;have:=run_equalIn_array (w:=w) d u.toArray z.toArray (qX hT) B;simp only[Wr.pk,show (Wr.arr m e).agg=true from rfl,ZU];rw[this,C,List.range_eq_range',<-h.1];simpa using F
section
variable {F:WV}{σ:AS}{d:Option Tmp}{ty:TypeId}{p:String}{af:Array Edge}{gd:Option (Nat×Bool)}{x y:Operand}
theorem Zo{α:Type}[DecidableEq α]{n:Nat}{e:Wr α}{o:BinOp}{T T':TypeId}{z z':α}{b:Bool}{ρ S a w}(ho:(o= .eql/\b=decide (z=z'))\/(o= .neq/\b= !decide (z=z')))(he:T8 n F.P T e)(hn:Nat.ble n 10000=true)(ha:e.agg=true)(hg:F.P.eqGuardType F.P.depth T=false)
  (hx:dD σ.g x=some (.v e z)) (hy:dD σ.g y=some (.v e z')) (K:m7 σ (Op.binOp o T x y T').operands ρ S a w):(execOp a.eval ⟨d,.binOp o T x y T',ty,p,af,gd⟩).run F.P w= .ok (.value (.bool b)) w:=by
 have u:=K.slot x (by simp[Op.operands]) _ hx;have A:=K.slot y (by simp[Op.operands]) _ hy;simp only[Slot.ok] at u A;obtain⟨H,I,B⟩:=u;obtain⟨L,M,C⟩:=A;obtain⟨r,D,E⟩:=he 10000 (w7 hn) w S S w w z z' H L I M;have G:r=decide (z=z'):=by
  cases r
  ·symm;simp;intro h;exact absurd (E.2 h) (by simp)
  ·symm;simp;exact E.1 rfl
 simp only[Wr.pk,ha,ZU] at B C D;refine BX (r:=r) (by rw[G];exact ho) B C (by intros;simp) (by intros;simp) (by intros;simp) (by intros;simp) ?_ D;exact run_eqGuard_agg (w:=w) o T x y _ _ hg
theorem Xd{α:Type}[DecidableEq α]{n:Nat}{e:Wr α}{T T':TypeId}{z z':α}(he:T8 n F.P T e)(hn:Nat.ble n 10000=true)(ha:e.agg=true)(hg:F.P.eqGuardType F.P.depth T=false)
  (hx:dD σ.g x=some (.v e z)) (hy:dD σ.g y=some (.v e z')):JO F ⟨d,.binOp .eql T x y T',ty,p,af,gd⟩ σ (.v Wr.bool (decide (z=z'))) []:=
 fun ρ S _ w K=>VJ.value (w':=w) (Zo (.inl ⟨rfl,rfl⟩) he hn ha hg hx hy K) (XJ.same (pE _ ρ S w))
theorem FJ{α:Type}[DecidableEq α]{n:Nat}{e:Wr α}{T T':TypeId}{z z':α}(he:T8 n F.P T e)(hn:Nat.ble n 10000=true)(ha:e.agg=true)(hg:F.P.eqGuardType F.P.depth T=false)
  (hx:dD σ.g x=some (.v e z)) (hy:dD σ.g y=some (.v e z')):JO F ⟨d,.binOp .neq T x y T',ty,p,af,gd⟩ σ (.v Wr.bool (!decide (z=z'))) []:=
 fun ρ S _ w K=>VJ.value (w':=w) (Zo (.inr ⟨rfl,rfl⟩) he hn ha hg hx hy K) (XJ.same (pE _ ρ S w))
end
end Go.Sw
namespace Go.Sw
open Go Go.RowKit
def fJ:Nat:=1125899906842624
inductive Ex (α β:Type) where
 | WB (x:α)
 |ret (r:β)
def lp{α β γ:Type}(step:α->Option (Step α (Ex β γ)))(x:α)(k:β->Option γ):Option γ:=
 match loop step fJ x with
 |none=>none
 |some (.WB y)=>k y
 |some (.ret z)=>some z
def jp{β γ:Type}(k:β->Option γ)(body:(β->Option γ)->Option γ):Option γ:=body k
theorem cN{α β γ:Type}{step:α->Option (Step α (Ex β γ))}{x:α}{k:β->Option γ}{r:γ}(h:lp step x k=some r):
  ∃o,loop step fJ x=some o/\(∀y,o= .WB y->k y=some r)/\(∀z,o= .ret z->z=r):=by
 unfold lp at h;cases hl:loop step fJ x with
 |none=>rw[hl] at h;cases h
 |some o=>
  rw[hl] at h;refine⟨o,rfl,?_,?_⟩
  ·rintro y rfl;exact h
  ·rintro z rfl;exact pT h
theorem fE{β γ:Type}{k:β->Option γ}{body:(β->Option γ)->Option γ}{r:γ}(h:jp k body=some r):∃K,K=k/\body K=some r:=⟨k,rfl,h⟩
theorem iK{α:Type}{c:Bool}{x y:Option α}{r:α}(hc:c=true)(h:(bif c then x else y)=some r):x=some r:=by subst hc;exact h
theorem iL{α:Type}{c:Bool}{x y:Option α}{r:α}(hc:c=false)(h:(bif c then x else y)=some r):y=some r:=by subst hc;exact h
theorem aA{α β:Type}{x:Option α}{f:α->Option β}{r:β}(h:x.bind f=some r):∃a,x=some a/\f a=some r:=Option.bind_eq_some_iff.1 h
def rn:List (Nat×Nat)->Nat->Nat
 | [],i=>i
 | (a,b)::r,i=>bif Nat.beq a i then b else rn r i
section
variable {F:WV}{cs:List Code}{σ σ':AS}{Q:Exit->Act->World->Prop}{α β γ:Type}
theorem vM{c:Tmp}{x y:Code}{b:Bool}(hb:lk σ.g c=some (.v Wr.bool b))(hc:b=true)(ht:W F (x::cs) σ Q):W F (.cond (.tmp c) x y::cs) σ Q:=by
 subst hc;exact Fs hb (fun _=>ht) (fun h=>by cases h)
theorem Ax{c:Tmp}{x y:Code}{b:Bool}(hb:lk σ.g c=some (.v Wr.bool b))(hc:b=false)(ht:W F (y::cs) σ Q):W F (.cond (.tmp c) x y::cs) σ Q:=by
 subst hc;exact Fs hb (fun h=>by cases h) (fun _=>ht)
def LB(F:WV)(id:Nat)(σs:α->AS)(σx:β->AS)(o:Ex β γ)(Q:Exit->Act->World->Prop):Step α (Ex β γ)->Exit->Act->World->Prop
 | .next y,.normal,a,w=>St F (σs y) a w
 | .next _,_,_,_=>False
 | .done (.WB x),.exit i,a,w=>i=id/\(o= .WB x->St F (σx x) a w)
 | .done (.WB _),_,_,_=>False
 | .done (.ret _),.normal,_,_=>False
 | .done (.ret z),.exit i,a,w=>i≠id/\(o= .ret z->Q (.exit i) a w)
 | .done (.ret z),e,a,w=>o= .ret z->Q e a w
theorem jP{id:Nat}{body:Code}{σs:α->AS}{step:α->Option (Step α (Ex β γ))}{x:α}{o:Ex β γ}(σx:β->AS)(hm:Sw.loop step fJ x=some o)(h0:Sub F σ (σs x))
  (hk:∀y,o= .WB y->W F cs (σx y) Q) (h:∀y r,step y=some r->W F [body] (σs y) (LB F id σs σx o Q r)):W F (.block id (.loop body)::cs) σ Q:=by
 refine bS (OS (b:=o) hm h0 fun y r B a w C=>?_);refine wpIn_mono (h y r B a w C) ?_;intro e a w u;cases r with
 |next z=>cases e<;>simp only[LB,LQ,Exit.then,run] at u ⊢<;>exact u
 |done b=>
  cases b with
  | WB z=>
   cases e<;>simp only[LB,LQ,Exit.then,run] at u ⊢;intro A;obtain⟨rfl,u⟩:=u;simp only[Exit.inBlock,ZU];exact hk z A.symm a w (u A.symm)
  |ret z=>
   cases e<;>simp only[LB,LQ,Exit.then,run] at u ⊢<;>intro A<;>first
    | (obtain⟨D,u⟩:=u;simp only[Exit.inBlock,WA D];exact u A.symm)
    |exact u A.symm
theorem cF{id:Nat}{σs:α->AS}{σx:β->AS}{o:Ex β γ}{y:α}(h:Sub F σ (σs y)):W F [] σ (LB F id σs σx o Q (.next y)):=fun a w u=>h a w u
theorem dJ{id:Nat}{σs:α->AS}{σx:β->AS}{o:Ex β γ}{y:β}(h:Sub F σ (σx y)):XQ F σ (LB F id σs σx o Q (.done (.WB y))) (.exit id):=fun a w u=>⟨rfl,fun _=>h a w u⟩
theorem hX{id:Nat}{σs:α->AS}{σx:β->AS}{o:Ex β γ}{z:γ}(h:o= .ret z->XQ F σ Q .ret):XQ F σ (LB F id σs σx o Q (.done (.ret z))) .ret:=fun a w u A=>h A a w u
def JQ(F:WV)(σx:β->AS)(P:β->Prop)(Q:Exit->Act->World->Prop):Exit->Act->World->Prop
 | .normal,a,w=>∃x,P x/\St F (σx x) a w
 |e,a,w=>Q e a w
theorem tF{c:Tmp}{x y:Code}{b:Bool}(σx:β->AS)(P:β->Prop)(hb:lk σ.g c=some (.v Wr.bool b))(hk:∀x,P x->W F cs (σx x) Q)(ht:b=true->W F [x] σ (JQ F σx P Q))(hf:b=false->W F [y] σ (JQ F σx P Q)):W F (.cond (.tmp c) x y::cs) σ Q:=by
 refine Fs hb (fun u a w A=>?_) (fun u a w A=>?_)
 ·refine wpIn_mono (ht u a w A) ?_;intro e a w h;cases e<;>simp only[Exit.then,run,JQ] at h ⊢<;>first | exact h | (obtain⟨z,B,C⟩:=h;exact hk z B a w C)
 ·refine wpIn_mono (hf u a w A) ?_;intro e a w h;cases e<;>simp only[Exit.then,run,JQ] at h ⊢<;>first | exact h | (obtain⟨z,B,C⟩:=h;exact hk z B a w C)
theorem cC{σx:β->AS}{P:β->Prop}{z:β}(hz:P z)(h:Sub F σ (σx z)):W F [] σ (JQ F σx P Q):=fun a w u=>⟨z,hz,h a w u⟩
theorem Gy{σx:β->AS}{P:β->Prop}(h:XQ F σ Q .ret):XQ F σ (JQ F σx P Q) .ret:=h
theorem J.fin{ops:Array Oper}(h:Sub F σ σ'):J F ops [] σ σ':=fun _ _ a w u z=>z a w (h a w u)
end
theorem dS{P:Program}{N:Nat}{S:Nat->Prop}{w:World}:∀k,¬(WV.R ⟨P,N,S,w,fun _=>False,none,[]⟩ k):=fun _ h=>h
end Go.Sw
namespace Go.Sw
open Go Go.RowKit
section
variable {F:WV}{cs:List Code}{σ σ':AS}{Q:Exit->Act->World->Prop}{α β γ:Type}{ops:Array Oper}{os:List Oper}
theorem GK.met{g:List (Nat×Slot)}{o:Oper}{j:Nat}{want:Bool}(t:Tmp){x:Bool}(h:o.guard= .some (j,want))(ht:(ops[j]?).bind (·.dst)= .some t)
  (hx:lk g t= .some (.v Wr.bool x)) (hb:x=want):GK ops g o true:=GK.some t x true h ht hx (by subst hb;simp)
theorem GK.F7{g:List (Nat×Slot)}{o:Oper}{j:Nat}{want:Bool}(t:Tmp){x:Bool}(h:o.guard= .some (j,want))(ht:(ops[j]?).bind (·.dst)= .some t)
  (hx:lk g t= .some (.v Wr.bool x)) (hb:x= !want):GK ops g o false:=GK.some t x false h ht hx (by subst hb;simp)
theorem Ko{c:Code}(h:W F cs σ' Q->W F (c::cs) σ Q)(k:W F cs σ' Q):W F (c::cs) σ Q:=h k
theorem cB{e:Exit}(h:Sub F σ σ')(k:XQ F σ' Q e):XQ F σ Q e:=fun a w u=>k a w (h a w u)
def BQ(F:WV)(id:Nat)(σx:β->AS)(P:β->Prop)(Q:Exit->Act->World->Prop):Exit->Act->World->Prop
 | .normal,a,w=>∃x,P x/\St F (σx x) a w
 | .exit i,a,w=>if i=id then∃x,P x/\St F (σx x) a w else Q (.exit i) a w
 |e,a,w=>Q e a w
theorem TK{id:Nat}{body:Code}(σx:β->AS)(P:β->Prop)(hk:∀x,P x->W F cs (σx x) Q)(h:W F [body] σ (BQ F id σx P Q)):W F (.block id body::cs) σ Q:=by
 refine bS fun a w D=>wpIn_mono (h a w D) ?_;intro e a w u;cases e<;>simp only[Exit.then,run,BQ,Exit.inBlock] at u ⊢<;>first
  |exact u
  | (obtain⟨z,B,C⟩:=u;exact hk z B a w C)
  | (
    split at u
    ·rename_i A;rw[WJ A];obtain⟨z,B,C⟩:=u;exact hk z B a w C
    ·rename_i A;rw[WA A];exact u)
theorem KU{id:Nat}{σx:β->AS}{P:β->Prop}{z:β}(hz:P z)(h:Sub F σ (σx z)):W F [] σ (BQ F id σx P Q):=fun a w u=>⟨z,hz,h a w u⟩
theorem KV{id:Nat}{σx:β->AS}{P:β->Prop}{z:β}(hz:P z)(h:Sub F σ (σx z)):XQ F σ (BQ F id σx P Q) (.exit id):=fun a w u=>by
 simp only[BQ,ZU];exact⟨z,hz,h a w u⟩
end
section
variable {F:WV}{σ:AS}{pb:Option Nat}{s:Slot}{d:Option Tmp}{ty:TypeId}{p:String}{af:Array Edge}{gd:Option (Nat×Bool)}{x y c:Operand}
theorem xM{b:Bool}(hb:b=true)(hc:dD σ.g c=some (.v Wr.bool b))(hx:dD σ.g x=some s):JO F ⟨d,.pick c x y,ty,p,af,gd⟩ σ s []:=by subst hb;exact FA hc hx
theorem uC{b:Bool}(hb:b=false)(hc:dD σ.g c=some (.v Wr.bool b))(hy:dD σ.g y=some s):JO F ⟨d,.pick c x y,ty,p,af,gd⟩ σ s []:=by subst hb;exact FB hc hy
def OC(k k':IntKind):Bool:=decide (k'.min<=k.min) && decide (k.max<=k'.max)
theorem Ay{k:IntKind}{n:Int}(h:Cw k n):k.wrap n=n:=by
 unfold Cw at h;cases k<;>simp[IntKind.min,IntKind.max,IntKind.signed,IntKind.bits] at h<;>simp[IntKind.wrap,IntKind.signed,IntKind.bits]<;>omega
theorem mH{A B:TypeId}{da:TypeDesc}{k k':IntKind}{n:Int}(ha:∀w,(underlying A).run F.P w= .ok da w)(hb:∀w,(underlying B).run F.P w= .ok (.int k') w)(hx:dD σ.g x=some (.v (Wr.int k) n))(hw:OC k k'=true):
  JO F ⟨d,.convert A B x,ty,p,af,gd⟩ σ (.v (Wr.int k') n) []:=by
 intro ρ S a w K;have u:=(fQ K (x:=x) (by simp[Op.operands]) hx).2;have h:=Zj (ty:=ty) (p:=p) (d:=d) (af:=af) (gd:=gd) ha hb hx ρ S a w K;have:k'.wrap n=n:=by
  refine Ay ?_;simp[OC] at hw;unfold Cw at*;omega
 rw[this] at h;exact h
def nz(n:Int):Option Unit:=if n=0 then none else some ()
theorem Eb{n:Int}{u:Unit}(h:nz n=some u):n≠0:=by unfold nz at h;split at h<;>simp_all
def nn(n:Int):Option Unit:=if 0<=n then some () else none
theorem Zp{n:Int}{u:Unit}(h:nn n=some u):0<=n:=by unfold nn at h;split at h<;>simp_all
theorem Xe{c:Nat}{ρ:Nat->LV}{a:Act}{w:World}(hc:Core F σ.d ρ w)(hs:∀t s,lk σ.g t=some s->s.ok ρ (Un F.S0 ρ σ.d) w (a.tmps.getD t undef)){i off:Nat}{T:TypeId}{l:List Slot}(hx:lk σ.g c=some (.ptr i off))(he:aX σ.d i=some (.box T l pb)):
  ∃b cs,a.tmps.getD c undef= .pointer (some ⟨b,off,none⟩)/\w.heap[b]? =some (.cells cs.toArray T (0,0))/\bM ρ (Un F.S0 ρ σ.d) w l cs:=by
 obtain⟨b,cs,_,h,u,z⟩:=zQ (x:= .tmp c) (xs:= #[.tmp c]) (cI hc hs #[.tmp c]) (by simp) hx he;exact⟨b,cs,h,u,z⟩
theorem aV{α:Type}{e:Wr α}{z:α}{T U:TypeId}{l:List Slot}{i c:Nat}(hx:lk σ.g c=some (.ptr i 0))(he:aX σ.d i=some (.box T l pb))(hl:K4 l e z)
  (hA:∀w,(isAgg U).run F.P w= .ok e.agg w) (hS:∀w,(sizeOf U).run F.P w= .ok e.n w):RV F σ (.cell c U) (.v e z):=by
 intro ρ a w hc hs;obtain⟨b,h,A,B,C⟩:=Xe hc hs hx he;have u:=(hl ρ _ w h).1 C;refine⟨e.pk h,?_,by simp only[Slot.ok];exact⟨h,u,rfl⟩⟩;have:=Fu (P:=F.P) (VQ.of_heap B) u hA hS;simp[wM,A,asAddr,this]
theorem Fv{T U:TypeId}{l:List Slot}{i c n:Nat}(hx:lk σ.g c=some (.ptr i 0))(he:aX σ.d i=some (.box T l pb))(hn:(l.map Slot.sz).sum=n)
  (hA:∀w,(isAgg U).run F.P w= .ok true w) (hS:∀w,(sizeOf U).run F.P w= .ok n w):RV F σ (.cell c U) (.agg l):=by
 intro ρ a w hc hs;obtain⟨b,h,B,z,u⟩:=Xe hc hs hx he;have A:h.length=n:=by
  rw[<-hn];clear hn hS hx he z
  induction l generalizing h with
  |nil=>simp only[bM] at u;simp[u]
  |cons t l E=>
   simp only[bM] at u;obtain⟨c,d,rfl,C,D⟩:=u;rw[sM,nL C,E d D];simp
 refine⟨.agg h.toArray,?_,by simp only[Slot.ok];exact⟨h,rfl,u⟩⟩;have:(loadVar U ⟨b,0,none⟩).run F.P w= .ok (.agg h.toArray) w:=by
  unfold loadVar;simp only[Sem.run_bind,hA,Result.andThen_ok,ZU,hS];rw[<-A,run_loadCells_list w _ h (VQ.of_heap z).cell];simp
 simp[wM,B,asAddr,this]
theorem cL{T U:TypeId}{l:List Slot}{i c:Nat}(hx:lk σ.g c=some (.ptr i 0))(he:aX σ.d i=some (.box T l pb))(ho:nI l 0=some s)
  (hA:∀w,(isAgg U).run F.P w= .ok s.ag w) (hS:∀w,(sizeOf U).run F.P w= .ok s.sz w):RV F σ (.cell c U) s:=by
 intro ρ a w hc hs;obtain⟨b,H,B,C,D⟩:=Xe hc hs hx he;obtain⟨E,c',I,rfl,G,z,_⟩:=uZ ho D;have h:VQ w b E.length c':=by have:=(VQ.of_heap C).sub;simpa using this
 have u:=nL z;refine⟨if s.ag then .agg c'.toArray else c'.headD undef,?_,Zk z⟩;have:(loadVar U ⟨b,0,none⟩).run F.P w= .ok (if s.ag then .agg c'.toArray else c'.headD undef) w:=by
  rw[<-G];unfold loadVar;simp only[Sem.run_bind,hA,Result.andThen_ok];cases ha:s.ag with
  |true=>
   simp only[ZU,Sem.run_bind,hS,Result.andThen_ok];rw[<-u,run_loadCells_list w _ c' h.cell];simp
  |false=>
   have A:c'.length=1:=by
    rw[u];cases s<;>simp only[Slot.ag,Slot.sz] at ha ⊢;exact Wr.one _ ha
   obtain⟨v,rfl⟩:=aCf.1 A;have:=h.cell 0 v rfl;simp[Addr.add] at this;simp[this]
 simp[wM,B,asAddr,this]
end
end Go.Sw
namespace Go.Sw
open Go Go.RowKit
def fK{α β:Type}[DecidableEq α]:List (α×β)->α->Option β
 | [],_=>none
 | (a,b)::m,k=>if a=k then some b else fK m k
def Gz{α β:Type}[DecidableEq α](m:List (α×β))(k:α)(v:β):Option (List (α×β)):=match fK m k with | none=>some (m++[(k,v)]) | some _=>none
theorem Pn{α β:Type}[DecidableEq α]{m m':List (α×β)}{k:α}{v:β}(h:Gz m k v=some m'):fK m k=none/\m'=m++[(k,v)]:=by
 unfold Gz at h;cases hm:fK m k with
 |none=>rw[hm] at h;exact⟨rfl,by simpa using h.symm⟩
 |some b=>rw[hm] at h;cases h
def n5{α:Type}(n:Nat)(P:Program)(T:TypeId)(e:Wr α):Prop:=∀d,n<=d->∀(em:Bool) (w:World) (S:Nat->Prop) (w1:World) (x:α) (cs:List Value),e.ok x S w1 cs->(Instr.checkKey em d T (e.pk cs)).run P w= .ok () w
theorem n5.int{P:Program}{T:TypeId}{k k':IntKind}(h:∀w,(underlying T).run P w= .ok (.int k') w):n5 1 P T (Wr.int k):=by
 intro d z A w S B x C u;obtain⟨d,rfl⟩:∃d',d=d'+1:=⟨d - 1,by omega⟩;rw[u.1];simp[Instr.checkKey,h,Wr.pk,Wr.int]
theorem Mb{α:Type}{n d:Nat}{P:Program}{E:TypeId}{e:Wr α}{em:Bool}(hd:n<=d)(he:n5 n P E e)(hA:∀w,(isAgg E).run P w= .ok e.agg w)(hS:∀w,(sizeOf E).run P w= .ok e.n w){S:Nat->Prop}{w1:World}:
  ∀(xs:List α) (k:Nat) (pre cs:List Value) (w:World),pre.length=k*e.n->e.YU xs S w1 cs->
   (forIn (List.range' k xs.length) PUnit.unit fun i (_:PUnit)=>do
    let s<-sizeOf E
    let v<-part E (pre++cs).toArray (i*s)
    Instr.checkKey em d E v
    pure (ForInStep.yield PUnit.unit):Sem PUnit).run P w= .ok () w
 | [],k,pre,cs,w,_,_=>by simp
 |x::xs,k,pre,cs,w,z,⟨c,A,C,h,D⟩=>by
  subst C;have u:=Mb (em:=em) hd he hA hS xs (k+1) (pre++c) A w (by rw[sM,z,e.len h,I6,po]) D;have B:=Xc (P:=P) (w:=w) (b:=A) h z hA hS;rw[A8] at u;simp only[D2,List.range'_succ,List.forIn_cons,Sem.run_bind,hS,Result.andThen_ok,B,he d hd em w S w1 x c h];simpa using u
theorem n5.arr{α:Type}{n m:Nat}{P:Program}{T E:TypeId}{e:Wr α}(hT:∀w,(underlying T).run P w= .ok (.array m E) w)(hS:∀w,(sizeOf E).run P w= .ok e.n w)(hA:∀w,(isAgg E).run P w= .ok e.agg w)(he:n5 n P E e):n5 (n+1) P T (Wr.arr m e):=by
 intro d A em w S B x z u;obtain⟨d,rfl⟩:∃d',d=d'+1:=⟨d - 1,by omega⟩;have h:=Mb (em:=em) (d:=d) (by omega) he hA hS x 0 [] z w (by simp) u.2;rw[u.1] at h;simp only[Instr.checkKey,Sem.run_bind,hT,Result.andThen_ok,Wr.pk,Wr.arr,ZU];simp[Std.Legacy.Range.forIn_eq_forIn_range',Std.Legacy.Range.size] at h ⊢;rw[h];rfl
theorem Zq{α β:Type}[DecidableEq α]{n:Nat}{P:Program}{T:TypeId}{e:Wr α}{f:Wr β}(hn:n<=10000)(he:T8 n P T e){S S':Nat->Prop}{w1 w2:World}{k:α}{cs:List Value}(hk:e.ok k S' w2 cs)(w:World):
  ∀(m:List (α×β)) (es:List MapEntry) (i:Nat),Wv e f S w1 m es->∃r,(Instr.findAsking T (e.pk cs) es i).run P w= .ok r w/\(fK m k=none->r=none)/\(∀b,fK m k=some b->∃j v,r=some (j,v)/\f.val b S w1 v)
 | [],[],i,_=>⟨none,by simp[Instr.findAsking],fun _=>rfl,fun b h=>by simp[fK] at h⟩
 | (a,b)::m,x::xs,i,⟨⟨G,H,I⟩,K,L⟩=>by
  obtain⟨r,B,C⟩:=he 10000 hn w S' S w2 w1 k a cs G hk H;rw[<-I] at B;have z:(Op.equal T (e.pk cs) x.key).run P w= .ok r w:=B;cases r with
  |true=>
   have u:=C.1 rfl;refine⟨some (i,x.val),by simp[Instr.findAsking,z],fun h=>?_,fun A h=>?_⟩
   ·simp[fK,u] at h
   ·simp[fK,u] at h;subst h;exact⟨i,x.val,rfl,K⟩
  |false=>
   have u:¬a=k:=fun h=>by have:=C.2 h.symm;cases this
   obtain⟨r,D,E,F⟩:=Zq hn he hk w m xs (i+1) L;refine⟨r,by simp[Instr.findAsking,z,D],fun h=>?_,fun A h=>?_⟩
   ·simp[fK,u] at h;exact E h
   ·simp[fK,u] at h;exact F A h
 | [],_::_,_,h=>h.elim
 |_::_,[],_,h=>h.elim
theorem Is{α β:Type}[DecidableEq α]{n l:Nat}{E:TypeId}{P:Program}{T:TypeId}{e:Wr α}{f:Wr β}(hn:n<=10000)(hT:∀w,(underlying T).run P w= .ok (.array l E) w)(he:T8 n P T e){S S':Nat->Prop}{w1 w2:World}{k:α}{cs:List Value}(hk:e.ok k S' w2 cs)(w:World)
  (m:List (α×β)) (es:List MapEntry) (h:Wv e f S w1 m es):∃r,(Instr.findKey T (e.pk cs) es).run P w= .ok r w/\(fK m k=none->r=none)/\(∀b,fK m k=some b->∃j v,r=some (j,v)/\f.val b S w1 v):=by
 match m,es,h with
 | [],[],_=>exact⟨none,by simp[Instr.findKey,hT,Instr.findNow],fun _=>rfl,fun b h=>by simp[fK] at h⟩
 |q::m,x::xs,h=>
  obtain⟨r,u,z⟩:=Zq hn he hk w (q::m) (x::xs) 0 h;refine⟨r,?_,z⟩;simp[Instr.findKey,hT,Instr.findNow,Instr.sameNow,u]
section
variable {F:WV}{σ:AS}{d:Option Tmp}{ty:TypeId}{p:String}{af:Array Edge}{gd:Option (Nat×Bool)}{x y z:Operand}
theorem Fw{α β:Type}{T:TypeId}(i:Nat)(e:Wr α)(f:Wr β):JO F ⟨d,.makeMap T none,ty,p,af,gd⟩ σ (.ref i) [(i,.mp e f [])]:=by
 intro ρ S a w K;refine VJ.value (w':=w.alloc (.map #[] 0)) (v:= .map (some w.heap.size)) (by simp[execOp,Instr.makeMap]) ?_;refine zO (.map (some w.heap.size)) (lF _ _) rfl ?_ ?_ ?_
 ·intro b u;simp[YN] at u;subst u;exact⟨YO _,by simp⟩
 ·intro z ρ' h _;exact⟨_,#[],0,rfl,heap_alloc_new _ _,trivial⟩
 ·intro z ρ' _ hi _;simp only[Slot.ok];exact⟨by rw[hi];exact .inr ⟨_,rfl⟩,hi.symm⟩
theorem CA{α β:Type}[DecidableEq α]{n n' l:Nat}{M KT VT E:TypeId}{e:Wr α}{f:Wr β}{m:List (α×β)}{i:Nat}{k:α}{u:β}{zv:Value}(hx:dD σ.g x=some (.ref i))(hd:aX σ.d i=some (.mp e f m))(hy:dD σ.g y=some (.v e k))
  (hM:∀w,(underlying M).run F.P w= .ok (.map KT VT) w) (hT:∀w,(underlying KT).run F.P w= .ok (.array l E) w) (he:T8 n F.P KT e) (hn:Nat.ble n 10000=true) (hk:n5 n' F.P KT e) (I7:Nat.ble n' 10000=true)
  (hz:∀w,(zeroValue VT).run F.P w= .ok zv w) (dy:∀S w,f.val u S w zv):JO F ⟨d,.lookup M x y false,ty,p,af,gd⟩ σ (.v f ((fK m k).getD u)) []:=by
 intro ρ S a w K;obtain⟨B,I,_⟩:=yO K (x:=x) (by simp[Op.operands]) hx hd;obtain⟨b,C,V,D,L,N⟩:=I;have h:=K.slot y (by simp[Op.operands]) _ hy;simp only[Slot.ok] at h;obtain⟨O,h,G⟩:=h;obtain⟨r,H,Q,R⟩:=Is (w7 hn) hT he h w m C.toList N;have z:=hk 10000 (w7 I7) C.isEmpty w S w k O h;have A:=MapKept.run_getObj_map (P:=F.P) L;cases hm:fK m k with
 |none=>
  have:=Q hm;subst this;refine VJ.value (w':=w) (v:=zv) ?_ (XJ.same (by simp only[Slot.ok];exact dy _ _));simp[execOp,B,D,G,Instr.lookup,hM,A,z,H,hz]
 |some U=>
  obtain⟨j,v,rfl,T⟩:=R U hm;refine VJ.value (w':=w) (v:=v) ?_ (XJ.same (by simp only[Slot.ok];exact T));simp[execOp,B,D,G,Instr.lookup,hM,A,z,H]
theorem Mc{α β:Type}{e:Wr α}{f:Wr β}{S:Nat->Prop}{w:World}{k:α}{v:β}{x:MapEntry}(h1:e.val k S w x.key)(h2:f.val v S w x.val):∀{m:List (α×β)} {xs:List MapEntry},Wv e f S w m xs->Wv e f S w (m++[(k,v)]) (xs++[x])
 | [],[],_=>⟨h1,h2,trivial⟩
 | (_,_)::_,_::_,⟨u,z,A⟩=>⟨u,z,Mc h1 h2 A⟩
 | [],_::_,h=>h.elim
 |_::_,[],h=>h.elim
theorem CB{α β:Type}[DecidableEq α]{n n' l:Nat}{M KT VT E:TypeId}{e:Wr α}{f:Wr β}{m m':List (α×β)}{i:Nat}{k:α}{v:β}(hm:Gz m k v=some m')(hx:dD σ.g x=some (.ref i))(hd:aX σ.d i=some (.mp e f m))(hy:dD σ.g y=some (.v e k))(hz:dD σ.g z=some (.v f v))
  (hM:∀w,(underlying M).run F.P w= .ok (.map KT VT) w) (hT:∀w,(underlying KT).run F.P w= .ok (.array l E) w) (he:T8 n F.P KT e) (hn:Nat.ble n 10000=true) (hk:n5 n' F.P KT e) (I7:Nat.ble n' 10000=true):
  JM F ⟨none,.mapUpdate M x y z,ty,p,af,gd⟩ σ ⟨σ.g,(i,.mp e f m')::σ.d⟩:=by
 obtain⟨U,rfl⟩:=Pn hm;refine pZ hd rfl fun ρ a w S T=>?_;have K:=cI S T (Op.mapUpdate M x y z).operands;obtain⟨V,X,_⟩:=yO K (x:=x) (by simp[Op.operands]) hx hd;obtain⟨b,B,u,C,D,I⟩:=X;have h:=K.slot y (by simp[Op.operands]) _ hy;have G:=K.slot z (by simp[Op.operands]) _ hz;simp only[Slot.ok] at h G;have L:=h;obtain⟨cs,h,vd⟩:=h;obtain⟨r,h8,h9,_⟩:=Is (w7 hn) hT he h w m B.toList I;have N:=h9 U;subst N;have O:=hk 10000 (w7 I7) false w _ w k cs h;have Q:=MapKept.run_getObj_map (P:=F.P) D;have R:=fun o=>MapKept.run_setObj_map (P:=F.P) o D;have H:=MapKept.heap_set (o':= .map (B.push { key:=a.eval y,val:=a.eval z,born:=u }) (u+1)) D;refine⟨b,{ w with heap:=w.heap.setIfInBounds b (.map (B.push { key:=a.eval y,val:=a.eval z,born:=u }) (u+1)) },.inl (by rw[C];rfl),⟨by simp,H.2,rfl,rfl,rfl⟩,?_,fun A=>?_⟩
 ·simp[execOp,V,C,vd,Instr.mapUpdate,hM,Q,O,h8,R]
 ·refine⟨b,_,_,C,H.1,?_⟩;rw[aDk];exact Mc (gO L A) (gO G A) (zL A I)
end
end Go.Sw
namespace Go.Sw
open Go Go.RowKit
inductive N3 (P:Program):List Field->List (Nat×Nat)->Prop
 |nil:N3 P [] []
 |cons {f:Field} {fs:List Field} {n off:Nat} {l:List (Nat×Nat)}:f.offset=off->P.cellsOf f.type=n->(P.info? f.type).isSome=true->N3 P fs l->N3 P (f::fs) ((off,n)::l)
theorem N3.mapM{P:Program}{fs:List Field}{l:List (Nat×Nat)}(h:N3 P fs l):(fs.mapM fun f=>(P.info? f.type).map fun i=>(f.offset,i.size))=some l:=by
 induction h with
 |nil=>rfl
 |cons A u z _ B=>
  rename_i f fs n C l _;rw[aCt,B];unfold Program.cellsOf at u;cases hi:P.info? f.type with
  |none=>rw[hi] at z;cases z
  |some i=>rw[hi] at u;simp at u;simp[A,u]
theorem dA{P:Program}{T:TypeId}{ti:TypeInfo}{fs:Array Field}{l:List (Nat×Nat)}{z:Value}{zs:List Value}(hI:∀w,(typeInfo T).run P w= .ok ti w)(hU:∀w,(underlying T).run P w= .ok (.struct fs) w)(hz:ti.zero=some z)(hc:z.cells=zs.toArray)
  (hp:N3 P fs.toList l):∀parts,P.built T parts=Instr.fill (l.toArray[·]?) zs.toArray parts:=by
 intro parts;unfold Program.built;rw[uB hI,qX hU];simp only[hz,hp.mapM,hc]
theorem Xf{P:Program}{T:TypeId}{ti:TypeInfo}{de:TypeDesc}{z:Value}(hI:∀w,(typeInfo T).run P w= .ok ti w)(hU:∀w,(underlying T).run P w= .ok de w)(hz:ti.zero=some z)(hd:(∃n E iE,de= .array n E/\P.info? E=some iE)):P.built T []=some z.cells:=by
 obtain⟨n,E,iE,rfl,h⟩:=hd;unfold Program.built;rw[uB hI,qX hU];simp only[hz,h];rfl
section
variable {F:WV}{σ:AS}{pb:Option Nat}{s:Slot}{d:Option Tmp}{ty:TypeId}{p:String}{af:Array Edge}{gd:Option (Nat×Bool)}{x y z:Operand}
theorem dE{α:Type}{e:Wr α}{v:α}{T E:TypeId}{n:Nat}{ti tE:TypeInfo}{cs:List Value}(hI:∀w,(typeInfo T).run F.P w= .ok ti w)(hU:∀w,(underlying T).run F.P w= .ok (.array n E) w)(hE:∀w,(typeInfo E).run F.P w= .ok tE w)(hz:ti.zero=some (.agg cs.toArray))(ha:e.agg=true)(hv:∀S w,e.ok v S w cs):
  JO F ⟨d,.build T #[],ty,p,af,gd⟩ σ (.v e v) []:=by
 intro ρ S a w K;have h:=Xf hI hU hz ⟨n,E,tE,rfl,uB hE⟩;refine VJ.value (w':=w) (v:= .agg cs.toArray) ?_ (XJ.same (by simp only[Slot.ok];exact⟨cs,hv _ _,by simp[Wr.pk,ha]⟩));have:=run_build (P:=F.P) w T #[] cs.toArray (by simpa[Value.cells] using h);simp only[execOp,aDa];simp[this]
def sub{α:Type}(xs:List α)(lo hi:Int):Option (List α):=if 0<=lo/\lo<=hi/\hi<=xs.length then some ((xs.take hi.toNat).drop lo.toNat) else none
theorem gS{α:Type}{xs ys:List α}{lo hi:Int}(h:sub xs lo hi=some ys):0<=lo/\lo<=hi/\hi<=xs.length/\ys=(xs.take hi.toNat).drop lo.toNat:=by
 unfold sub at h;split at h
 ·rename_i u;cases h;exact⟨u.1,u.2.1,u.2.2,rfl⟩
 ·cases h
theorem vT{α:Type}{e:Wr α}{S w}:∀{xs:List α} {cs:List Value} (n:Nat),e.YU xs S w cs->e.YU (xs.drop n) S w (cs.drop (n*e.n))
 |xs,cs,0,h=>by simpa using h
 | [],cs,n+1,h=>by
  have:cs=[]:=h;subst this;simpa using h
 |x::xs,cs,n+1,⟨c,d,A,B,C⟩=>by
  subst A;have:=vT n C;have u:=e.len B;rw[Nat.succ_mul,aDf (n*e.n),<-u,aD5,u];have z:c.drop (e.n+n*e.n)=[]:=aDy (by omega);rw[z];simpa using this
theorem sQ{α:Type}{e:Wr α}{S w}:∀{xs:List α} {cs:List Value} (n:Nat),e.YU xs S w cs->e.YU (xs.take n) S w (cs.take (n*e.n))
 |xs,cs,0,h=>by simp;rfl
 | [],cs,n+1,h=>by
  have:cs=[]:=h;subst this;simpa using h
 |x::xs,cs,n+1,⟨c,d,B,z,C⟩=>by
  subst B;have:=sQ n C;have u:=e.len z;refine⟨c,d.take (n*e.n),?_,z,this⟩;rw[Nat.succ_mul,aDf (n*e.n),<-u,List.take_append,u];have A:c.take (e.n+n*e.n)=c:=aCa (by omega);rw[A];simp
theorem VQ.drop{w:World}{b off:Nat}{ds:List Value}(n:Nat)(h:VQ w b off ds):VQ w b (off+n) (ds.drop n):=by
 obtain⟨c,T,z,A,B⟩:=h;refine⟨c,T,z,A,fun j u=>?_⟩;have:=B (n+j) (by simp at u;omega);rw[List.getElem_drop,<-this];congr 1;omega
theorem VQ.take{w:World}{b off:Nat}{ds:List Value}(n:Nat)(h:VQ w b off ds):VQ w b off (ds.take n):=by
 obtain⟨c,T,z,A,B⟩:=h;refine⟨c,T,z,A,fun j u=>?_⟩;rw[List.getElem_take];exact B j (by simp at u;omega)
theorem FK{α:Type}{e:Wr α}{xs ys:List α}{lo hi:Int}{S:Nat->Prop}{w:World}{a:Option Addr}{cap:Nat}(hs:sub xs lo hi=some ys)(hl:xs.length<=cap/\xs.length<=140737488355328)
  (h:xs=[]\/∃b off ds,a=some ⟨b,off,none⟩/\b<w.heap.size/\¬S b/\VQ w b off ds/\e.YU xs S w ds):
  (Wr.sl e).val ys S w (.slice (if cap=lo.toNat then a else a.map (·.add (lo.toNat*e.n))) (hi.toNat - lo.toNat) (cap - lo.toNat)):=by
 obtain⟨F,G,H,rfl⟩:=gS hs;have u:((xs.take hi.toNat).drop lo.toNat).length=hi.toNat - lo.toNat:=by rw[R6,C0];omega
 refine sG.2 ⟨_,_,by rw[u],⟨by rw[u];omega,by rw[u];omega⟩,?_⟩;rcases h with h |⟨b,off,ds,rfl,B,C,D,E⟩
 ·subst h;left;simp
 ·by_cases z:hi.toNat - lo.toNat=0
  ·left;exact fy (by rw[u];exact z)
  ·right;have A:¬cap=lo.toNat:=by omega
   refine⟨b,off+lo.toNat*e.n,_,by rw[WA A];simp[Addr.add_lit],B,C,(D.take (hi.toNat*e.n)).drop (lo.toNat*e.n),vT _ (sQ _ E)⟩
theorem CC{P:Program}{w:World}{len cap:Nat}{k k':IntKind}{lo hi:Int}(h0:0<=lo)(h1:lo<=hi)(h2:hi<=cap):(Instr.sliceBounds true len cap (some (.int k lo)) (some (.int k' hi)) none).run P w= .ok (lo.toNat,hi.toNat,cap) w:=by
 have h:0<=hi:=by omega
 have u:lo<=(hi.toNat:Int):=by omega
 simp only[Instr.sliceBounds,Instr.sliceBound,asIntOf,Sem.run_bind,Sem.run_pure,Result.andThen_ok,h2,h,u,h0,and_self,ZU]
theorem Ha{P:Program}{w:World}{len cap:Nat}{k':IntKind}{hi:Int}(h1:0<=hi)(h2:hi<=cap):(Instr.sliceBounds true len cap none (some (.int k' hi)) none).run P w= .ok (0,hi.toNat,cap) w:=by
 simp[Instr.sliceBounds,Instr.sliceBound,asIntOf,h1,h2]
theorem Dc{P:Program}{w:World}{len cap:Nat}{k:IntKind}{lo:Int}(h0:0<=lo)(h1:lo<=len):(Instr.sliceBounds true len cap (some (.int k lo)) none none).run P w= .ok (lo.toNat,len,cap) w:=by
 simp[Instr.sliceBounds,Instr.sliceBound,asIntOf,h0,h1]
theorem FM{α:Type}{e:Wr α}{xs:List α}{xs':Array Operand}{ρ:Nat->LV}{S a w}(K:m7 σ xs' ρ S a w)(hm:x∈xs')(hx:dD σ.g x=some (.v (Wr.sl e) xs)):
  ∃ad cap,a.eval x= .slice ad xs.length cap/\(xs.length<=cap/\xs.length<=140737488355328)/\(xs=[]\/∃b off ds,ad=some ⟨b,off,none⟩/\b<w.heap.size/\¬S b/\VQ w b off ds/\e.YU xs S w ds):=by
 have h:=K.slot x hm _ hx;simp only[Slot.ok] at h;exact sG.1 h
theorem Zs{α:Type}{e:Wr α}{xs ys:List α}{hi:Int}{k':IntKind}{U E:TypeId}(hs:sub xs 0 hi=some ys)(hx:dD σ.g x=some (.v (Wr.sl e) xs))(hz:dD σ.g z=some (.v (Wr.int k') hi))
  (hU:∀w,(underlying U).run F.P w= .ok (.slice E) w) (hE:∀w,(sizeOf E).run F.P w= .ok e.n w):JO F ⟨d,.slice U x none (some z) none,ty,p,af,gd⟩ σ (.v (Wr.sl e) ys) []:=by
 intro ρ S a w K;obtain⟨D,u,A,B,C⟩:=FM K (x:=x) (by simp[Op.operands]) hx;have h:=(fQ K (x:=z) (by simp[Op.operands]) hz).1;obtain⟨G,s1,H,_⟩:=gS hs;refine VJ.value (w':=w) ?_ (XJ.same (by simp only[Slot.ok];exact FK hs B C));simp[execOp,Instr.sliceAt,Instr.slice,A,h,hU,hE,Ha s1 (show hi<=(u:Int) by omega)]
theorem wR{α:Type}{e:Wr α}{xs ys:List α}{lo:Int}{k:IntKind}{U E:TypeId}(hs:sub xs lo (xs.length:Int)=some ys)(hx:dD σ.g x=some (.v (Wr.sl e) xs))(hy:dD σ.g y=some (.v (Wr.int k) lo))
  (hU:∀w,(underlying U).run F.P w= .ok (.slice E) w) (hE:∀w,(sizeOf E).run F.P w= .ok e.n w):JO F ⟨d,.slice U x (some y) none none,ty,p,af,gd⟩ σ (.v (Wr.sl e) ys) []:=by
 intro ρ S a w K;obtain⟨C,D,u,z,A⟩:=FM K (x:=x) (by simp[Op.operands]) hx;have h:=(fQ K (x:=y) (by simp[Op.operands]) hy).1;obtain⟨B,s1,G,_⟩:=gS hs;refine VJ.value (w':=w) ?_ (XJ.same (by simp only[Slot.ok];exact FK hs z A));simp[execOp,Instr.sliceAt,Instr.slice,u,h,hU,hE,Dc B s1]
theorem FN{α:Type}{e:Wr α}{xs ys:List α}{lo hi m:Int}{k k' k2:IntKind}{q:Operand}{U E:TypeId}(hs:sub xs lo hi=some ys)(hm:hi<=m/\m<=xs.length)(hx:dD σ.g x=some (.v (Wr.sl e) xs))(hy:dD σ.g y=some (.v (Wr.int k) lo))(hz:dD σ.g z=some (.v (Wr.int k') hi))(hq:dD σ.g q=some (.v (Wr.int k2) m))
  (hU:∀w,(underlying U).run F.P w= .ok (.slice E) w) (hE:∀w,(sizeOf E).run F.P w= .ok e.n w):JO F ⟨d,.slice U x (some y) (some z) (some q),ty,p,af,gd⟩ σ (.v (Wr.sl e) ys) []:=by
 intro ρ S a w K;obtain⟨G,H,X,h2,D⟩:=FM K (x:=x) (by simp[Op.operands]) hx;have A:=(fQ K (x:=y) (by simp[Op.operands]) hy).1;have B:=(fQ K (x:=z) (by simp[Op.operands]) hz).1;have C:=(fQ K (x:=q) (by simp[Op.operands]) hq).1;obtain⟨s0,s1,s2,rfl⟩:=gS hs;have u:((xs.take hi.toNat).drop lo.toNat).length=hi.toNat - lo.toNat:=by rw[R6,C0];omega
 have I:(Wr.sl e).val ((xs.take hi.toNat).drop lo.toNat) S w (.slice (if m.toNat=lo.toNat then G else G.map (·.add (lo.toNat*e.n))) (hi.toNat - lo.toNat) (m.toNat - lo.toNat)):=by
  refine sG.2 ⟨_,_,by rw[u],⟨by rw[u];omega,by rw[u];omega⟩,?_⟩;rcases D with h |⟨b,aa,ds,rfl,D,A,B,C⟩
  ·subst h;left;simp
  ·by_cases L:hi.toNat - lo.toNat=0
   ·left;exact fy (by rw[u];exact L)
   ·right;have M:¬m.toNat=lo.toNat:=by omega
    refine⟨b,aa+lo.toNat*e.n,_,by rw[WA M];simp[Addr.add_lit],D,A,(B.take (hi.toNat*e.n)).drop (lo.toNat*e.n),vT _ (sQ _ C)⟩
 refine VJ.value (w':=w) ?_ (XJ.same (by simp only[Slot.ok];exact I));have N:(Instr.sliceBounds true xs.length H (some (.int k lo)) (some (.int k' hi)) (some (.int k2 m))).run F.P w= .ok (lo.toNat,hi.toNat,m.toNat) w:=by
  have O:0<=m:=by omega
  have Q:m<=(H:Int):=by omega
  have R:0<=hi:=by omega
  have T:hi<=(m.toNat:Int):=by omega
  have V:lo<=(hi.toNat:Int):=by omega
  simp only[Instr.sliceBounds,Instr.sliceBound,asIntOf,Sem.run_bind,Sem.run_pure,Result.andThen_ok,s0,O,Q,R,T,V,and_self,ZU]
 simp[execOp,Instr.sliceAt,Instr.slice,X,A,B,C,hU,hE,N]
def q7{α:Type}(n:Nat)(xs:List α):Option (List α):=if n<=xs.length/\0<n then some (xs.take n) else none
theorem Ec{α:Type}{e:Wr α}{xs ys:List α}{n:Nat}{U E:TypeId}(hs:q7 n xs=some ys)(hx:dD σ.g x=some (.v (Wr.sl e) xs))(hU:∀w,(underlying U).run F.P w= .ok (.array n E) w):
  JO F ⟨d,.sliceToArrayPointer U x,ty,p,af,gd⟩ σ (.XR (Wr.arr n e) ys) []:=by
 intro ρ S a w K;obtain⟨I,L,C,M,u⟩:=FM K (x:=x) (by simp[Op.operands]) hx;unfold q7 at hs;split at hs
 ·rename_i B;cases hs;rcases u with h |⟨b,z,N,rfl,u,D,G,H⟩
  ·subst h;simp at B;omega
  ·have A:¬xs.length<n:=by omega
   refine VJ.value (w':=w) (v:= .pointer (some ⟨b,z,none⟩)) ?_ (XJ.same (by simp only[Slot.ok];exact⟨b,z,_,rfl,u,D,G.take (n*e.n),by rw[C0];omega,sQ _ H⟩));simp[execOp,Instr.arrayAt,C,hU,A]
 ·cases hs
theorem Az{k:IntKind}{m n:Int}{U U':TypeId}(hx:dD σ.g x=some (.v (Wr.int k) m))(hy:dD σ.g y=some (.v (Wr.int k) n)):
  JO F ⟨d,.call ⟨.builtin .max,#[x,y],#[U,U']⟩,ty,p,af,gd⟩ σ (.v (Wr.int k) (max m n)) []:=by
 intro ρ S a w K;obtain⟨h,z⟩:=fQ K (x:=x) (by simp[Op.operands,Call.operands]) hx;obtain⟨u,A⟩:=fQ K (x:=y) (by simp[Op.operands,Call.operands]) hy;have e:(if n>m then n else m)=max m n:=by split<;>omega
 refine VJ.value (w':=w) (v:= .int k (max m n)) ?_ (XJ.same (tC (by unfold Cw at*;omega) ρ S w));simp[execOp,resolve,invoke,builtin,h,u,Builtin.max_,Builtin.max2,e]
theorem yP{k:IntKind}{m n:Int}{U U':TypeId}(hx:dD σ.g x=some (.v (Wr.int k) m))(hy:dD σ.g y=some (.v (Wr.int k) n)):
  JO F ⟨d,.call ⟨.builtin .min,#[x,y],#[U,U']⟩,ty,p,af,gd⟩ σ (.v (Wr.int k) (min m n)) []:=by
 intro ρ S a w K;obtain⟨h,z⟩:=fQ K (x:=x) (by simp[Op.operands,Call.operands]) hx;obtain⟨u,A⟩:=fQ K (x:=y) (by simp[Op.operands,Call.operands]) hy;have e:(if n<m then n else m)=min m n:=by split<;>omega
 refine VJ.value (w':=w) (v:= .int k (min m n)) ?_ (XJ.same (tC (by unfold Cw at*;omega) ρ S w));simp[execOp,resolve,invoke,builtin,h,u,Builtin.min_,Builtin.min2,e]
theorem It{T U:TypeId}{l:List Slot}{i off n:Nat}{s0:Slot}(hx:dD σ.g x=some (.ptr i off))(he:aX σ.d i=some (.box T l pb))(ho:nI l off=some s0)(hy:Arg σ false y s)(hp:s.plain=true)(m9:s.sz=n)(H4:s0.sz=n)
  (hS:∀w,(sizeOf U).run F.P w= .ok n w):JM F ⟨none,.store U x y,ty,p,af,gd⟩ σ ⟨σ.g,(i,.box T (nV l off s) pb)::σ.d⟩:=by
 refine pZ he rfl fun ρ a w z A=>?_;have K:=cI z A (Op.store U x y).operands;obtain⟨b,R,B,I,C,L⟩:=zQ K (x:=x) (by simp[Op.operands]) hx he;have h:=qV hp (hy ρ _ a w (cI z A #[y]));simp only[O2,ZW] at h;obtain⟨M,c,N,rfl,rfl,O,Q⟩:=uZ ho L;have D:∀u∈(a.eval y).cells.toList,u.oneCell'=true:=fun u G=>Gx h u G (fun e=>by subst e;cases hp);have E:=lA (P:=F.P) (w:=w) (U:=U) hS (by have:=nL h;simp only[Z0] at this;omega) D C rfl (by rw[nL O];exact H4);refine⟨b,w.setRow b (M++((a.eval y).cells.toList++N)).toArray,.inl (by rw[B];rfl),Z1.setRow w b _,?_,fun H=>?_⟩
 ·exact lB I E
 ·refine⟨⟨b,_,B,setRow_heap w b _ _ T _ C,?_⟩,(z.own i _ he).2⟩;exact fO _ _ (Q s _ h) H (fun _ _=>rfl)
theorem FO(g:Nat)(ρ:Nat->LV)(S:Nat->Prop)(w:World):(Slot.ZJ g []).ok ρ S w (.func (.func g) #[] #[]):=by
 simp only[Slot.ok];exact⟨[],rfl,rfl⟩
theorem Arg.fn{g:Nat}{ZB:Bool}:Arg σ ZB (.func g) (.ZJ g []):=fun ρ _ a w _=>FO g ρ _ w
end
end Go.Sw
namespace Go.Sw
open Go Go.RowKit
section
variable {F:WV}{σ:AS}{pb:Option Nat}{s:Slot}{d:Option Tmp}{ty:TypeId}{p:String}{af:Array Edge}{gd:Option (Nat×Bool)}{x y z:Operand}
theorem Ba{ρ S w}:∀{l l':List Slot} {vs F6:List Value},aW ρ S w l vs->aW ρ S w l' F6->aW ρ S w (l++l') (vs++F6)
 | [],_,vs,_,h,z=>by simp only[aW] at h;subst h;exact z
 |s::l,_,vs,_,h,z=>by
  simp only[aW] at h;obtain⟨u,C,rfl,A,B⟩:=h;simp only[ek,aW];exact⟨u,_,rfl,A,Ba B z⟩
theorem Po{P:Program}{f:FuncId}{xs:List Operand}{ts:Array TypeId}{a:Act}{w:World}{cs:List Value}(hx:a.eval x= .func (.func f) #[] cs.toArray)(XK:∀args w,(callFunc f args).run P w= .ok (.enter f args) w):
  (execOp a.eval ⟨d,.call ⟨.value x,xs.toArray,ts⟩,ty,p,af,gd⟩).run P w= .ok (.enter f (xs.map a.eval++cs).toArray) w:=by
 simp[execOp,resolve,hx,Deferred.ofValue,invoke,XK]
theorem tM{f:FuncId}{xs:List Operand}{cap:List Slot}(ha:N5 σ false xs cap):JO F ⟨d,.makeFunc (.func f) #[] xs.toArray,ty,p,af,gd⟩ σ (.ZJ f cap) []:=by
 intro ρ S a w K;have:=ha.spec (ys:=(Op.makeFunc (.func f) #[] xs.toArray).operands) (by intro x h;simp[Op.operands,h]) K;simp only[O2,ZW] at this;refine VJ.value (w':=w) (v:= .func (.func f) #[] (xs.map a.eval).toArray) (by simp[execOp,Instr.makeFunc]) (XJ.same (by simp only[Slot.ok];exact⟨_,rfl,this⟩))
theorem Xg{α:Type}{i:Nat}{T:TypeId}{e:Wr α}{v:α}{bl:List Slot}{ρ:Nat->LV}{S:Nat->Prop}{w:World}{u:Value}(h0:(Slot.ptr i 0).ok ρ S w u)(he:(VH.box T bl pb).ok ρ S w (ρ i))(hs:K4 bl e v):
  (Slot.XR e v).ok ρ (fun _=>False) w u:=by
 simp only[Slot.ok] at h0 ⊢;obtain⟨⟨b,z⟩,D⟩:=h0;obtain⟨⟨A,E,B,C,F⟩,_⟩:=he;obtain rfl:A=b:=by rw[z] at B;simpa using B.symm
 exact⟨A,0,E,by rw[D,z];rfl,(VQ.of_heap C).lt,fun h=>h,VQ.of_heap C,e.mono ((hs _ _ _ _).1 F) (zR S w true)⟩
inductive gb (σ:AS):List Slot->List Slot->Prop
 |nil:gb σ [] []
 |same {s:Slot} {l l':List Slot}:gb σ l l'->gb σ (s::l) (s::l')
 |ptr {α:Type} {i:Nat} {T:TypeId} {e:Wr α} {v:α} {bl l l':List Slot} {pb:Option Nat}:aX σ.d i=some (.box T bl pb)->K4 bl e v->gb σ l l'->gb σ (.ptr i 0::l) (.XR e v::l')
theorem gb.spec{l l':List Slot}(h:gb σ l l'){ρ S w}(iz:∀i∈dU l,∀en,aX σ.d i=some en->en.ok ρ S w (ρ i)):∀vs,aW ρ S w l vs->aW ρ (fun _=>False) w l' vs:=by
 induction h with
 |nil=>intro vs h;exact h
 |same _ E=>
  intro vs h;simp only[aW] at h ⊢;obtain⟨u,z,B,C,D⟩:=h;exact⟨u,z,B,Slot.VE _ u C (zR S w true) (fun _ _=>rfl),E (fun i A=>iz i (by simp[dU,A])) z D⟩
 |ptr F G _ E=>
  intro vs h;simp only[aW] at h ⊢;obtain⟨u,z,B,C,D⟩:=h;exact⟨u,z,B,Xg C (iz _ (by simp[dU,Slot.YF]) _ F) G,E (fun i A=>iz i (by simp[dU,A])) z D⟩
theorem Arg.G2{α:Type}{i:Nat}{T:TypeId}{e:Wr α}{v:α}{bl:List Slot}(h:dD σ.g x=some (.ptr i 0))(he:aX σ.d i=some (.box T bl pb))(hs:K4 bl e v):Arg σ true x (.XR e v):=by
 intro ρ S a w K;have u:=K.slot x (by simp) _ h;exact Xg u (K.y9 x (by simp) _ h i (by simp[Slot.YF]) _ he).1 hs
theorem Arg.aMu{g:Nat}{cap K2:List Slot}(h:dD σ.g x=some (.ZJ g cap))(hc:gb σ cap K2):Arg σ true x (.ZJ g K2):=by
 intro ρ S a w K;have u:=K.slot x (by simp) _ h;simp only[Slot.ok] at u;obtain⟨vs,C,D⟩:=u;simp only[Slot.ok,ZU];exact⟨vs,C,hc.spec (fun i z A B=>(K.y9 x (by simp) _ h i (by simpa[Slot.YF] using z) A B).1) vs D⟩
theorem rM{α:Type}{e:Wr α}{v:α}(hx:dD σ.g x=some (.XR e v)):JO F ⟨d,.nilCheck x,ty,p,af,gd⟩ σ (.XR e v) []:=by
 intro ρ S a w K;have h:=K.slot x (by simp[Op.operands]) _ hx;have u:=h;simp only[Slot.ok] at u;obtain⟨b,A,B,z,_⟩:=u;refine VJ.value (w':=w) (v:=a.eval x) ?_ (XJ.same h);simp[execOp,z]
theorem aK{i off:Nat}(hx:dD σ.g x=some (.ptr i off)):JO F ⟨d,.nilCheck x,ty,p,af,gd⟩ σ (.ptr i off) []:=by
 intro ρ S a w K;have h:=K.slot x (by simp[Op.operands]) _ hx;have u:=h;simp only[Slot.ok] at u;obtain⟨⟨b,z⟩,A⟩:=u;refine VJ.value (w':=w) (v:=a.eval x) ?_ (XJ.same h);simp[execOp,A,z,Cv]
end
end Go.Sw
namespace Go.Sw
open Go Go.RowKit
theorem K4.VB{α β:Type}{l l':List Slot}{a:Wr α}{b:Wr β}{x:α}{y:β}(h:K4 l a x)(h':K4 l' b y):K4 (l++l') (Wr.pr a b) (x,y):=K4.pr (x:=(x,y)) h h'
section
variable {F:WV}{σ:AS}{pb:Option Nat}{s:Slot}{d:Option Tmp}{ty:TypeId}{p:String}{af:Array Edge}{gd:Option (Nat×Bool)}{x y z:Operand}
theorem aM{f:FuncId}{xs:List Operand}{ts:Array TypeId}{ss:List Slot}{res:Slot}(hc:VS F.P f ss res [])(XK:∀args w,(callFunc f args).run F.P w= .ok (.enter f args) w)
  (ha:N5 σ false xs ss):JO F ⟨d,.call ⟨.value (.func f),xs.toArray,ts⟩,ty,p,af,gd⟩ σ res []:=by
 intro ρ S a w K;refine VJ.enter (uA XK) ?_;have:=ha.spec (ys:=(Op.call ⟨.value (.func f),xs.toArray,ts⟩).operands) (by intro x u;simp[Op.operands,Call.operands,u]) K;refine(hc S w _ ρ K.low this).mono ?_;rintro e z ⟨v,rfl,h⟩;exact⟨v,rfl,h⟩
theorem tN{f:FuncId}{xs:List Operand}{ts:Array TypeId}{ss cap:List Slot}{res:Slot}(hx:dD σ.g x=some (.ZJ f cap))(hc:VS F.P f (ss++cap) res [])(XK:∀args w,(callFunc f args).run F.P w= .ok (.enter f args) w)
  (ha:N5 σ false xs ss):JO F ⟨d,.call ⟨.value x,xs.toArray,ts⟩,ty,p,af,gd⟩ σ res []:=by
 intro ρ S a w K;have u:=K.slot x (by simp[Op.operands,Call.operands]) _ hx;simp only[Slot.ok] at u;obtain⟨B,z,A⟩:=u;refine VJ.enter (Po z XK) ?_;have:=ha.spec (ys:=(Op.call ⟨.value x,xs.toArray,ts⟩).operands) (by intro x hx;simp[Op.operands,Call.operands,hx]) K;refine(hc S w _ ρ K.low (Ba this A)).mono ?_;rintro e C ⟨v,rfl,h⟩;exact⟨v,rfl,h⟩
theorem rN{f:FuncId}{xs:List Operand}{ts:Array TypeId}{ss:List Slot}{res:Slot}(hc:VS F.P f ss res [])(XK:∀args w,(callFunc f args).run F.P w= .ok (.enter f args) w)
  (ha:N5 σ true xs ss) (hf:XH res):JO F ⟨d,.call ⟨.value (.func f),xs.toArray,ts⟩,ty,p,af,gd⟩ σ res []:=by
 intro ρ S a w K;refine VJ.enter (uA XK) ?_;have:=ha.spec (ys:=(Op.call ⟨.value (.func f),xs.toArray,ts⟩).operands) (by intro x z;simp[Op.operands,Call.operands,z]) K;refine(hc (fun _=>False) w _ ρ (fun _ h=>h.elim) this).mono ?_;rintro e E ⟨v,rfl,ρ',A,B,C,G⟩;refine⟨v,rfl,ρ',A,B,hf _ _ _ _ _ C,⟨fun i u h=>by simp[aX] at h,fun i u b h=>by simp[aX] at h,fun i j u D b h=>by simp[aX] at h⟩⟩
theorem Md{P:Program}{w:World}{n:Nat}:(Instr.sliceBounds false n n none none none).run P w= .ok (0,n,n) w:=by simp[Instr.sliceBounds]
theorem Ka{P:Program}{w:World}{n:Nat}{k:IntKind}{hi:Int}(h0:0<=hi)(h1:hi<=n):(Instr.sliceBounds false n n none (some (.int k hi)) none).run P w= .ok (0,hi.toNat,n) w:=by
 simp[Instr.sliceBounds,Instr.sliceBound,asIntOf,h0,h1]
theorem CD{P:Program}{w:World}{U E:TypeId}{b off len m:Nat}(hU:∀w,(underlying U).run P w= .ok (.array len E) w)(hE:∀w,(sizeOf E).run P w= .ok m w):(Instr.sliceAt U (.pointer (some ⟨b,off,none⟩)) none none none).run P w= .ok (.slice (some ⟨b,off,none⟩) len len) w:=by
 have u:Addr.add ⟨b,off,none⟩ 0=⟨b,off,none⟩:=by rw[Addr.add_lit];rfl
 by_cases h:len=0
 ·subst h;simp[Instr.sliceAt,hU,hE,Instr.sureAddr,Md]
 ·simp[Instr.sliceAt,hU,hE,Instr.sureAddr,Md,h,u]
theorem Xh{P:Program}{w:World}{U E:TypeId}{b off len m:Nat}{k:IntKind}{hi:Int}(h0:0<=hi)(h1:hi<=len)(hU:∀w,(underlying U).run P w= .ok (.array len E) w)(hE:∀w,(sizeOf E).run P w= .ok m w):(Instr.sliceAt U (.pointer (some ⟨b,off,none⟩)) none (some (.int k hi)) none).run P w= .ok (.slice (some ⟨b,off,none⟩) hi.toNat len) w:=by
 have u:Addr.add ⟨b,off,none⟩ 0=⟨b,off,none⟩:=by rw[Addr.add_lit];rfl
 by_cases h:len=0
 ·subst h;simp[Instr.sliceAt,hU,hE,Instr.sureAddr,Ka h0 h1]
 ·simp[Instr.sliceAt,hU,hE,Instr.sureAddr,Ka h0 h1,h,u]
theorem Pp{α:Type}{e:Wr α}{zs:List α}{T U E:TypeId}{l:List Slot}{i off len:Nat}(hx:dD σ.g x=some (.ptr i off))(he:aX σ.d i=some (.box T l pb))(_ho:nI l off=some (.v (Wr.arr len e) zs))
  (hU:∀w,(underlying U).run F.P w= .ok (.array len E) w) (hE:∀w,(sizeOf E).run F.P w= .ok e.n w):
  JO F ⟨d,.slice U x none none none,ty,p,af,gd⟩ σ (.r8 i off 0 len len) []:=by
 intro ρ S a w K;obtain⟨b,z,h,u,A,B⟩:=zQ K (x:=x) (by simp[Op.operands]) hx he;refine VJ.value (w':=w) (v:= .slice (some ⟨b,off,none⟩) len len) ?_ (XJ.same (by simp only[Slot.ok];exact⟨⟨b,h⟩,by rw[h];rfl⟩));simp[execOp,u,CD hU hE]
theorem RJ{xs:Array Operand}{ρ:Nat->LV}{S a w}(K:m7 σ xs ρ S a w)(hm:x∈xs){i off n cap:Nat}{T:TypeId}{l:List Slot}(hx:dD σ.g x=some (.r8 i off 0 n cap))(he:aX σ.d i=some (.box T l pb)):
  ∃b cs,a.eval x= .slice (some ⟨b,off,none⟩) n cap/\w.heap[b]? =some (.cells cs.toArray T (0,0))/\bM ρ S w l cs:=by
 have h:=K.slot x hm _ hx;simp only[Slot.ok] at h;obtain⟨⟨b,u⟩,B⟩:=h;have:=(K.y9 x hm _ hx i (by simp[Slot.YF]) _ he).1;obtain⟨⟨z,cs,A,C,D⟩,_⟩:=this;obtain rfl:z=b:=by rw[u] at A;simpa using A.symm
 exact⟨z,cs,by rw[B,u];rfl,C,D⟩
theorem KW{α:Type}{e:Wr α}{zs:List α}{T:TypeId}{l:List Slot}{b off len:Nat}{cs:List Value}{ρ:Nat->LV}{S:Nat->Prop}{w:World}(h3:w.heap[b]? =some (.cells cs.toArray T (0,0)))(h4:bM ρ S w l cs)(ho:nI l off=some (.v (Wr.arr len e) zs)):
  zs.length=len/\∃ds,VQ w b off ds/\e.YU zs S w ds:=by
 obtain⟨u,c,z,rfl,rfl,h,_⟩:=uZ ho h4;simp only[Slot.YW] at h;exact⟨h.1,c,by have:=(VQ.of_heap h3).sub;simpa using this,h.2⟩
theorem Src.r8{α:Type}{e:Wr α}{zs:List α}{T:TypeId}{l:List Slot}{i off len:Nat}(h:dD σ.g y=some (.r8 i off 0 len len))(he:aX σ.d i=some (.box T l pb))(ho:nI l off=some (.v (Wr.arr len e) zs))(hlen:Nat.ble len 4294967296=true):Src σ y e zs:=by
 intro ρ S a w K;have hlen:=w7 hlen;obtain⟨b,F,u,z,A⟩:=RJ K (x:=y) (by simp) h he;obtain⟨B,C,D,E⟩:=KW z A ho;exact⟨by omega,_,_,by rw[u,B],.inr ⟨b,off,C,rfl,D,E⟩⟩
theorem CE{α:Type}{e:Wr α}{T E:TypeId}{n:Nat}{ti tE:TypeInfo}{z:Value}{ps:List (Nat×Operand)}{zs:List α}(hI:∀w,(typeInfo T).run F.P w= .ok ti w)(hU:∀w,(underlying T).run F.P w= .ok (.array n E) w)(hE:∀w,(typeInfo E).run F.P w= .ok tE w)(hs:tE.size=e.n)(hz:ti.zero=some z)(hzn:z.cells.size=n*e.n)
  (hl:ps.length=n) (T1:zs.length=n) (he:B0 σ e 0 ps zs):JO F ⟨d,.build T ps.toArray,ty,p,af,gd⟩ σ (.v (Wr.arr n e) zs) []:=by
 intro ρ S a w K;obtain⟨h,B,C⟩:=he.spec (ys:=(Op.build T ps.toArray).operands) (by intro x u;simp[Op.operands] at u ⊢;exact u) K [] z.cells.toList (by simp) (by rw[hl,Z0,hzn]);refine VJ.value (w':=w) (v:= .agg h.toArray) ?_ (XJ.same (by simp only[Slot.ok];exact⟨h,⟨T1,C⟩,rfl⟩));have A:F.P.built T (ps.map fun q=>(q.1,a.eval q.2))=some h.toArray:=by
  unfold Program.built;rw[uB hI,qX hU];simp only[hz,uB hE,hs];simpa using B
 have:=run_build (P:=F.P) w T (ps.map fun q=>(q.1,a.eval q.2)).toArray h.toArray (by simpa using A);simp only[execOp,aDa];simp[this]
end
end Go.Sw
namespace Go.Sw
open Go Go.RowKit
def Wr.F8{α:Type}(e:Wr α):Wr (Bool×List α) where
 n:=1
 agg:=false
 ok x S w cs:=(Wr.sl e).ok x.2 S w cs/\∀a l c,cs=[.slice a l c]->x.1=a.isNone
 len h:=(Wr.sl e).len h.1
 one _:=rfl
 cell h:=(Wr.sl e).cell h.1
 mono h k:=⟨(Wr.sl e).mono h.1 k,h.2⟩
theorem Rl{α:Type}{e:Wr α}{b:Bool}{xs:List α}{S w u}(h:(Wr.F8 e).val (b,xs) S w u):(Wr.sl e).val xs S w u/\∃a l c,u= .slice a l c/\b=a.isNone:=by
 obtain⟨B,⟨z,C⟩,rfl⟩:=h;refine⟨⟨B,z,rfl⟩,?_⟩;obtain⟨a,D,A,_⟩:=z;exact⟨a,_,D,by rw[A];rfl,C _ _ _ A⟩
theorem rO{α:Type}{P:Program}{f:FuncId}{e:Wr α}{xs:List α}{res:Slot}{new:List (Nat×VH)}(h:∀b,(b=true->xs=[])->VS P f [.v (Wr.F8 e) (b,xs)] res new):VS P f [.v (Wr.sl e) xs] res new:=by
 intro S w vs ρ hl hv;simp only[aW,Slot.ok] at hv;obtain⟨u,F,rfl,C,rfl⟩:=hv;obtain⟨a,A,rfl,D,z⟩:=sG.1 C;refine h a.isNone (fun B=>?_) S w _ ρ hl ?_
 ·rcases z with z |⟨b,G,H,rfl,_⟩
  ·exact z
  ·cases B
 ·simp only[aW,Slot.ok];refine⟨_,[],rfl,⟨[.slice a xs.length A],⟨⟨a,A,rfl,D,z⟩,fun E l c h=>?_⟩,rfl⟩,rfl⟩;simp at h;rw[h.1]
section
variable {F:WV}{σ:AS}{s:Slot}{d:Option Tmp}{ty:TypeId}{p:String}{af:Array Edge}{gd:Option (Nat×Bool)}{x y z:Operand}
theorem xH{α:Type}{e:Wr α}{v:Bool×List α}{T T' E:TypeId}(hx:dD σ.g x=some (.v (Wr.F8 e) v))(hT:∀w,(underlying T).run F.P w= .ok (.slice E) w):JO F ⟨d,.binOp .eql T x (.const (.slice none 0 0)) T',ty,p,af,gd⟩ σ (.v Wr.bool v.1) []:=by
 intro ρ S a w K;have h:=K.slot x (by simp[Op.operands]) _ hx;simp only[Slot.ok] at h;obtain⟨b,xs⟩:=v;obtain⟨_,u,l,c,A,rfl⟩:=Rl h;have z:=run_equalIn_slice_nil (P:=F.P) w 9999 T E u l c (qX hT);refine VJ.value (w':=w) (v:= .bool u.isNone) ?_ (XJ.same (pE _ ρ S w));exact BX (r:=u.isNone) (.inl ⟨rfl,rfl⟩) A rfl (by intros;simp) (by intros;simp) (by intros;simp) (by intros;simp) (by simp[eqGuard,Act.eval]) z
theorem Src.F8{α:Type}{e:Wr α}{v:Bool×List α}(h:dD σ.g y=some (.v (Wr.F8 e) v)):Src σ y e v.2:=by
 intro ρ S a w K;have z:=K.slot y (by simp) _ h;simp only[Slot.ok] at z;obtain⟨A,B,C,D,u⟩:=sG.1 (Rl z).1;refine⟨D.2,A,B,C,?_⟩;rcases u with u |⟨b,E,F,G,_,_,H,I⟩
 ·exact .inl u
 ·exact .inr ⟨b,E,F,G,H,I⟩
end
end Go.Sw
namespace Go.Sw
open Go Go.RowKit
def vh(cs:List Value)(l:List Slot)(new:List (Nat×VH)):Prop:=∀ρ S w,(∀i en,aX new i=some en->ρ i= .of (.slice none 0 0))->bM ρ S w l cs
theorem vh.nil{new:List (Nat×VH)}:vh [] [] new:=fun _ _ _ _=>rfl
theorem vh.cons{cs:List Value}{l:List Slot}{new:List (Nat×VH)}{α:Type}{e:Wr α}{z:α}{c:List Value}(h:∀S w,e.ok z S w c)(k:vh cs l new):vh (c++cs) (.v e z::l) new:=fun ρ S w u=>by
 simp only[bM];exact⟨c,cs,rfl,by simp only[Slot.YW];exact h S w,k ρ S w u⟩
theorem vh.ref{cs:List Value}{l:List Slot}{new:List (Nat×VH)}{en:VH}(i:Nat)(hi:aX new i=some en)(k:vh cs l new):vh (.slice none 0 0::cs) (.ref i::l) new:=fun ρ S w h=>by
 simp only[bM];exact⟨[.slice none 0 0],cs,rfl,by simp only[Slot.YW];rw[h i en hi];exact⟨.inl ⟨_,_,_,rfl⟩,rfl⟩,k ρ S w h⟩
inductive al:List (Nat×VH)->Prop
 |nil:al []
 |cons {α:Type} {i:Nat} {T:TypeId} {e:Wr α} {r:List (Nat×VH)}:al r->al ((i,.arr T e [])::r)
 |dp {α:Type} {i:Nat} {D:DE α} {x:α} {r:List (Nat×VH)}:(∀S w,D.ok x S w (.of (.slice none 0 0)) [])->al r->al ((i,.dp D x [])::r)
theorem al.spec{new:List (Nat×VH)}(h:al new):∀i en,aX new i=some en->∀ρ S w,en.ok ρ S w (.of (.slice none 0 0)):=by
 induction h with
 |nil=>intro i en h;simp[aX] at h
 |cons _ u=>
  rename_i α i T e r _;intro j en h;simp only[aX] at h;cases hb:Nat.beq i j with
  |true=>rw[hb] at h;simp at h;subst h;intro ρ S w;exact .inl ⟨rfl,rfl⟩
  |false=>rw[hb] at h;exact u j en h
 |dp z _ u=>
  rename_i α i D x r _;intro j en h;simp only[aX] at h;cases hb:Nat.beq i j with
  |true=>rw[hb] at h;simp at h;subst h;intro ρ S w;exact z S w
  |false=>rw[hb] at h;exact u j en h
section
variable {F:WV}{σ:AS}{s:Slot}{d:Option Tmp}{ty:TypeId}{p:String}{af:Array Edge}{gd:Option (Nat×Bool)}{x y z:Operand}
theorem Zt{new:List (Nat×VH)}{xs:Array Operand}{ρ:Nat->LV}{S:Nat->Prop}{a:Act}{w:World}(hn:al new)(hf:σ.free new=true)(K:m7 σ xs ρ S a w):
  ∃ρ':Nat->LV,(∀i,aX new i=none->ρ' i=ρ i)/\(∀i en,aX new i=some en->ρ' i= .of (.slice none 0 0))/\m7 σ xs ρ' S a w/\lz ρ' (Un S ρ' new) w w new/\Ext S (Un S ρ' new) w w:=by
 let ρ':Nat->LV:=fun i=>if (aX new i).isSome then .of (.slice none 0 0) else ρ i
 have D:∀i,aX new i=none->ρ' i=ρ i:=fun i h=>WA (by simp[h]);have B:∀i en,aX new i=some en->ρ' i= .of (.slice none 0 0):=fun i en h=>WJ (by simp[h]);have F:=fun {i en} (h:aX new i=some en)=>kV hf h;have L:∀t s,lk σ.g t=some s->mM ρ ρ' s.YF:=by
  intro t s P j A;cases hl:aX new j with
  |none=>exact congrArg LV.v (D j hl)
  |some en=>exact absurd A ((F hl).1 t s P)
 have M:∀i en,aX σ.d i=some en->mM ρ ρ' en.YF:=by
  intro i en G j A;cases hl:aX new j with
  |none=>exact congrArg LV.v (D j hl)
  |some Q=>exact absurd A ((F hl).2.2 i en G)
 have N:∀x s,dD σ.g x=some s->mM ρ ρ' s.YF:=by
  intro x s z;cases x with
  |tmp t=>exact L t s z
  |const u=>have:=(Lr z ρ S w).2;intro j A;rw[this] at A;simp at A
  |global g=>cases z
  |func f=>cases z
 refine⟨ρ',D,B,⟨K.low,fun x z s E=>Slot.VE s _ (K.slot x z s E) (Ext.refl S w) (N x s E),fun x z s E i G en H=>?_⟩,⟨fun i en h=>?_,fun i en b h C=>?_,fun i j en Q b h X C _=>?_⟩,⟨YO _,fun k _ R=>⟨rfl,?_⟩⟩⟩
 ·obtain⟨T,U⟩:=K.y9 x z s E i G en H
  have O:ρ' i=ρ i:=D i (by
   cases hl:aX new i with
   |none=>rfl
   |some e=>have:=(F hl).2.1;rw[H] at this;cases this)
  rw[O];exact⟨VH.VE T (Ext.refl S w) (M i en H) (fun _ _=>rfl),U⟩
 ·rw[B i en h];exact hn.spec i en h _ _ _
 ·rw[B i en h] at C;simp[pD,YN] at C
 ·rw[B i en h] at C;simp[pD,YN] at C
 ·rintro (h |⟨i,en,V,I⟩)
  ·exact R h
  ·rw[B i en V] at I;simp[pD,YN] at I
theorem fH{T:TypeId}{pl:Array (Nat×Nat)}{zs:List Value}{ps:List (Nat×Operand)}{l l':List Slot}{new:List (Nat×VH)}(hB:∀parts,F.P.built T parts=Instr.fill (pl[·]?) zs.toArray parts)(hz:vh zs l new)(hn:al new)(hf:σ.free new=true)(hp:K5 σ pl l ps l'):
  JO F ⟨d,.build T ps.toArray,ty,p,af,gd⟩ σ (.agg l') new:=by
 intro ρ S a w K;obtain⟨ρ',A,B,C,D,E⟩:=Zt hn hf K;obtain⟨h,G,H⟩:=hp.spec (ys:=(Op.build T ps.toArray).operands) (by intro x u;simp[Op.operands] at u ⊢;exact u) C zs (hz ρ' S w B);have z:(Slot.agg l').ok ρ' S w (.agg h.toArray):=by simp only[Slot.ok];exact⟨h,rfl,H⟩
 refine VJ.value (w':=w) (v:= .agg h.toArray) ?_ ⟨ρ',A,Below.refl _ _,Slot.VE _ _ z E (fun _ _=>rfl),D⟩;have:=run_build (P:=F.P) w T (ps.map fun q=>(q.1,a.eval q.2)).toArray h.toArray (by rw[hB];exact G);simp only[execOp,aDa];simp[this]
end
end Go.Sw
namespace Go.Sw
open Go Go.RowKit
structure Ins (S:Nat->Prop) (ρ:Nat->LV) (w:World) (XX:List (Nat×VH)):Prop where
 own:∀i en,aX XX i=some en->en.ok ρ (Un S ρ XX) w (ρ i)
 lt:∀i en b,aX XX i=some en->qS (ρ i) b->b<w.heap.size
 apart:∀i en b,aX XX i=some en->qS (ρ i) b->¬S b
 inj:∀i j en en' b,aX XX i=some en->aX XX j=some en'->qS (ρ i) b->qS (ρ j) b->i=j
structure dm (S:Nat->Prop) (R:Nat->Prop) (w0:World) (res:Slot) (VP:List (Nat×VH)) (ρ:Nat->LV) (v:Value) (w:World):Prop where
 size:w0.heap.size<=w.heap.size
 frame:∀k,k<w0.heap.size->¬R k->w.heap[k]? =w0.heap[k]?
 os:w.os=w0.os
 tape:w.tape=w0.tape
 output:w.output=w0.output
 slot:res.ok ρ (Un S ρ VP) w v
 own:∀i en,aX VP i=some en->en.ok ρ (Un S ρ VP) w (ρ i)
 fresh:∀i en b,aX VP i=some en->qS (ρ i) b->(w0.heap.size<=b\/R b)/\b<w.heap.size
 apart:∀i en b,aX VP i=some en->qS (ρ i) b->¬S b
 inj:∀i j en en' b,aX VP i=some en->aX VP j=some en'->qS (ρ i) b->qS (ρ j) b->i=j
def VG(P:Program)(f:FuncId)(args:List Slot)(XX:List (Nat×VH))(res:Slot)(VP:List (Nat×VH)):Prop:=
 ∀S w vs ρ,(∀k,S k->k<w.heap.size)->Ins S ρ w XX->aW ρ (Un S ρ XX) w args vs->Calls P f vs.toArray w fun e h=>∃v ρ',e= .returned v/\dm S (mN ρ XX) w res VP ρ' v h
def zS(F:WV)(fn:Func)(res:Slot)(VP:List (Nat×VH)):Exit->Act->World->Prop:=
 bodyPostM Fence.wide 0 F.P fn fun e h=>∃v ρ',e= .returned v/\dm F.S0 F.R F.w0 res VP ρ' v h
theorem VG.of{P:Program}{f:FuncId}{fn:Func}{c:Code}{N:Nat}{args:List Slot}{XX:List (Nat×VH)}{res:Slot}{VP:List (Nat×VH)}
  (hf:P.funcs[f]? =some fn) (hb:fn.body=some c) (hN:fn.ntmps=N) (hle:Nat.ble args.length N=true)
  (h:∀S w R,T7 ⟨P,N,S,w,R,none,[]⟩ ⟨P,N,S,w,R,none,[]⟩->W ⟨P,N,S,w,R,none,[]⟩ [c] ⟨enum 0 args,XX⟩ (zS ⟨P,N,S,w,R,none,[]⟩ fn res VP)):VG P f args XX res VP:=by
 intro S w vs ρ ZX y3 hv;refine(callsIn_wide (n:=0)).1 (callsIn_of_wp_marks hf hb trivial ?_);have G:=Gt hv;have hle:=w7 hle;have B:St ⟨P,N,S,w,mN ρ XX,none,[]⟩ ⟨enum 0 args,XX⟩ { tmps:=vs.toArray++Array.replicate (fn.ntmps - vs.toArray.size) undef,defers:=[] } w:= ?_
 ·have z:c.wpIn Fence.wide 0 P (Exit.then (run Fence.wide P (zS ⟨P,N,S,w,mN ρ XX,none,[]⟩ fn res VP) []) (zS ⟨P,N,S,w,mN ρ XX,none,[]⟩ fn res VP)) { tmps:=vs.toArray++Array.replicate (fn.ntmps - vs.toArray.size) undef,defers:=[] } w:=h S w _ (.refl ZX rfl) _ w B;refine wpIn_mono z ?_;intro e a H D;cases e<;>exact D
 ·refine⟨⟨ρ,⟨ZX,YO _,fun _ _ _=>rfl,rfl,rfl,rfl,y3.own,fun i A b h hb=>⟨.inr ⟨i,A,h,hb⟩,y3.lt i A b h hb⟩,y3.inj,y3.apart⟩,fun t s E=>?_⟩,?_,rfl⟩
  ·obtain⟨_,u,z,F⟩:=Lt args vs 0 hv t s E;have C:t<vs.length:=by
    rcases K3 t vs.length with h | h
    ·exact h
    ·simp[X3 h] at z
   have:(vs.toArray++Array.replicate (fn.ntmps - vs.toArray.size) undef).getD t undef=u:=by
    simp only[oe];rw[aDm (by simpa using C)];simp only[Nat.sub_zero] at z;simp[z]
   rw[this];exact F
  ·simp only[aEi,aEj,aD8];show _=N;omega
theorem dm.n9{F:WV}{σ:AS}{ρ:Nat->LV}{w:World}{v:Value}{res:Slot}{VP:List (Nat×VH)}(hc:Core F σ.d ρ w)(hr:res.ok ρ (Un F.S0 ρ σ.d) w v)(hn:y7 VP σ.d):dm F.S0 F.R F.w0 res VP ρ v w:=by
 have z:=hn.spec
 have B:Ext (Un F.S0 ρ σ.d) (Un F.S0 ρ VP) w w:=⟨YO _,fun k _ D=>⟨rfl,fun h=>D (by
  rcases h with h |⟨i,u,K,L⟩
  ·exact .inl h
  ·exact .inr ⟨i,u,z i u K,L⟩)⟩⟩
 exact⟨hc.size,hc.frame,hc.os,hc.tape,hc.output,Slot.VE res v hr B (fun _ _=>rfl),fun i u h=>VH.VE (hc.own i u (z i u h)) B (fun _ _=>rfl) (fun _ _=>rfl),
  fun i u b h A=>hc.fresh i u b (z i u h) A,fun i u b h A=>hc.apart i u b (z i u h) A,fun i j u C b E G H I=>hc.inj i j u C b (z i u E) (z j C G) H I⟩
theorem Ts{P:Program}{fn:Func}{a:Act}{w:World}(y1:fn.results= #[]):(results fn a.tmps).run P w= .ok (.tuple #[]) w:=by rw[xI,y1];simp
section
variable {F F':WV}{σ:AS}{fn:Func}{rv gz zx:ResultVar}{res s s' s2:Slot}{VP:List (Nat×VH)}
theorem FP(hF:T7 F F')(y1:fn.results= #[])(hn:y7 VP σ.d):XQ F' σ (zS F fn (.WC []) VP) .ret:=
 yM hF fun ρ a w h u=>⟨_,Ts y1,_,ρ,rfl,dm.n9 h (by simp only[Slot.ok];exact⟨[],rfl,by simp only[aW]⟩) hn⟩
theorem eK(hF:T7 F F')(y1:fn.results= #[rv])(h:RV F σ rv res)(hn:y7 VP σ.d):XQ F' σ (zS F fn res VP) .ret:=
 yM hF fun ρ a w u z=>by
  obtain⟨v,A,B⟩:=h ρ a w u z;exact⟨v,Tl y1 A,v,ρ,rfl,dm.n9 u B hn⟩
theorem dP(hF:T7 F F')(y1:fn.results= #[rv,gz])(h:RV F σ rv s)(h':RV F σ gz s')(hn:y7 VP σ.d):XQ F' σ (zS F fn (.WC [s,s']) VP) .ret:=
 yM hF fun ρ a w u z=>by
  obtain⟨v,A,B⟩:=h ρ a w u z;obtain⟨E,C,D⟩:=h' ρ a w u z;exact⟨_,Tm y1 A C,_,ρ,rfl,dm.n9 u (RF B D) hn⟩
theorem FQ(hF:T7 F F')(y1:fn.results= #[rv,gz,zx])(h:RV F σ rv s)(h':RV F σ gz s')(h'':RV F σ zx s2)(hn:y7 VP σ.d):XQ F' σ (zS F fn (.WC [s,s',s2]) VP) .ret:=
 yM hF fun ρ a w u z=>by
  obtain⟨v,A,B⟩:=h ρ a w u z;obtain⟨H,C,D⟩:=h' ρ a w u z;obtain⟨I,E,G⟩:=h'' ρ a w u z;exact⟨_,Tn y1 A C E,_,ρ,rfl,dm.n9 u (RG B D G) hn⟩
end
end Go.Sw
namespace Go.Sw
open Go Go.RowKit
inductive w6 (σ:AS) (r:Nat->Nat) (A:Nat->Nat):List (Nat×VH)->Prop
 |nil:w6 σ r A []
 |box {i:Nat} {T:TypeId} {l:List Slot} {pb:Option Nat} {ds:List (Nat×VH)}:aX σ.d (r i)=some (.box T (fG r l) pb)->w6 σ r A ds->w6 σ r A ((i,.box T l (some (A i)))::ds)
 |arr {α:Type} {i:Nat} {T:TypeId} {e:Wr α} {xs:List α} {ds:List (Nat×VH)}:aX σ.d (r i)=some (.arr T e xs)->w6 σ r A ds->w6 σ r A ((i,.arr T e xs)::ds)
 |mp {α β:Type} {i:Nat} {e:Wr α} {f:Wr β} {m:List (α×β)} {ds:List (Nat×VH)}:aX σ.d (r i)=some (.mp e f m)->w6 σ r A ds->w6 σ r A ((i,.mp e f m)::ds)
 |dp {α:Type} {i:Nat} {D:DE α} {x:α} {l:List Nat} {ds:List (Nat×VH)}:aX σ.d (r i)=some (.dp D x (l.map r))->w6 σ r A ds->w6 σ r A ((i,.dp D x l)::ds)
theorem w6.spec{σ:AS}{r:Nat->Nat}{A:Nat->Nat}{ds:List (Nat×VH)}(h:w6 σ r A ds){ρ:Nat->LV}{S:Nat->Prop}{w:World}(ho:∀i en,aX σ.d i=some en->en.ok ρ S w (ρ i))(hA:∀i b,(ρ (r i)).v= .pointer (some ⟨b,0,none⟩)->A i=b):
  ∀i en,aX ds i=some en->(∃YT,aX σ.d (r i)=some YT)/\en.ok (fun i=>ρ (r i)) S w (ρ (r i)):=by
 induction h with
 |nil=>intro i en h;simp[aX] at h
 |box u _ B=>
  rename_i j T l G ds _;intro i en h;rw[cK] at h;split at h
  ·rename_i z;subst z;cases h;have F:=ho _ _ u;refine⟨⟨_,u⟩,?_⟩;have C:((VH.box T l G).map r).ok ρ S w (ρ (r j)):=F;rw[Gw] at C;obtain⟨⟨b,I,E,K,L⟩,_⟩:=C;exact⟨⟨b,I,E,K,L⟩,fun c H=>by cases H;rw[E,hA j b E]⟩
  ·exact B i en h
 |arr u _ B=>
  rename_i j T e xs ds _;intro i en h;rw[cK] at h;split at h
  ·rename_i z;subst z;cases h;exact⟨⟨_,u⟩,ho _ _ u⟩
  ·exact B i en h
 |mp u _ B=>
  rename_i j e f m ds _;intro i en h;rw[cK] at h;split at h
  ·rename_i z;subst z;cases h;exact⟨⟨_,u⟩,ho _ _ u⟩
  ·exact B i en h
 |dp u _ B=>
  rename_i j D x l ds _;intro i en h;rw[cK] at h;split at h
  ·rename_i z;subst z;cases h;refine⟨⟨_,u⟩,?_⟩;have C:((VH.dp D x l).map r).ok ρ S w (ρ (r j)):=ho _ _ u
   rwa [Gw] at C
  ·exact B i en h
def iD(l:Nat):List Nat->Bool
 | []=>false
 |i::r=>bif Nat.beq i l then true else iD l r
theorem iX{l:Nat}:∀{r:List Nat},iD l r=true↔l∈r
 | []=>by simp[iD]
 |i::r=>by
  simp only[iD];cases hb:Nat.beq i l with
  |true=>have:=s8 hb;subst this;simp
  |false=>
   have:l≠i:=fun e=>by subst e;simp at hb
   simp[iX,this]
inductive YX (σ:AS) (r:Nat->Nat) (A:Nat->Nat):List (Nat×VH)->List (Nat×VH)->List Nat->Prop
 |nil:YX σ r A [] [] []
 |box {i:Nat} {T T0:TypeId} {l l0:List Slot} {pb:Option Nat} {ds D:List (Nat×VH)} {K:List Nat}:aX σ.d (r i)=some (.box T0 l0 pb)->YX σ r A ds D K->iD (r i) K=false->YX σ r A ((i,.box T l (some (A i)))::ds) ((r i,.box T (fG r l) pb)::D) (r i::K)
 | R4 {i:Nat} {T:TypeId} {l:List Slot} {ds D:List (Nat×VH)} {K:List Nat}:YX σ r A ds D K->iD (r i) K=false->YX σ r A ((i,.box T l none)::ds) ((r i,.box T (fG r l) none)::D) K
 |arr {α:Type} {i:Nat} {T:TypeId} {e:Wr α} {xs:List α} {ds D:List (Nat×VH)} {K:List Nat}:YX σ r A ds D K->iD (r i) K=false->YX σ r A ((i,.arr T e xs)::ds) ((r i,.arr T e xs)::D) K
 |mp {α β:Type} {i:Nat} {e:Wr α} {f:Wr β} {m:List (α×β)} {ds D:List (Nat×VH)} {K:List Nat}:YX σ r A ds D K->iD (r i) K=false->YX σ r A ((i,.mp e f m)::ds) ((r i,.mp e f m)::D) K
 |dp {α:Type} {i:Nat} {E:DE α} {x:α} {l:List Nat} {ds D:List (Nat×VH)} {K:List Nat}:YX σ r A ds D K->iD (r i) K=false->YX σ r A ((i,.dp E x l)::ds) ((r i,.dp E x (l.map r))::D) K
theorem YX.spec{σ:AS}{r:Nat->Nat}{A:Nat->Nat}{ds D:List (Nat×VH)}{K:List Nat}(h:YX σ r A ds D K)(aY3:∀i j,r i=r j->i=j):
  (∀l en',aX D l=some en'->∃i en,l=r i/\aX ds i=some en/\(en'=en.map r\/∃T T0 m l0 pb,en= .box T m (some (A i))/\en'= .box T (fG r m) pb/\aX σ.d (r i)=some (.box T0 l0 pb)))/\
  (∀i en,aX ds i=some en->∃en',aX D (r i)=some en')/\(∀k∈K,∃i T m T0 l0 pb,k=r i/\aX ds i=some (.box T m (some (A i)))/\aX σ.d k=some (.box T0 l0 pb)):=by
 have step:∀{i:Nat} {en en':VH} {ds D:List (Nat×VH)},((∀l en',aX D l=some en'->∃i en,l=r i/\aX ds i=some en/\(en'=en.map r\/∃T T0 m l0 pb,en= .box T m (some (A i))/\en'= .box T (fG r m) pb/\aX σ.d (r i)=some (.box T0 l0 pb)))/\(∀i en,aX ds i=some en->∃en',aX D (r i)=some en'))->
   (en'=en.map r\/∃T T0 m l0 pb,en= .box T m (some (A i))/\en'= .box T (fG r m) pb/\aX σ.d (r i)=some (.box T0 l0 pb))->
   ((∀l B,aX ((r i,en')::D) l=some B->∃j C,l=r j/\aX ((i,en)::ds) j=some C/\(B=C.map r\/∃T T0 m l0 pb,C= .box T m (some (A j))/\B= .box T (fG r m) pb/\aX σ.d (r j)=some (.box T0 l0 pb)))/\
    (∀j C,aX ((i,en)::ds) j=some C->∃B,aX ((r i,en')::D) (r j)=some B)):=by
  rintro i en en' ds D ⟨U,V⟩ X;refine⟨fun l B H=>?_,fun j C M=>?_⟩
  ·rw[cK] at H;split at H
   ·rename_i I;subst I;cases H;exact⟨i,en,rfl,by rw[cK,WJ rfl],X⟩
   ·rename_i I;obtain⟨j,C,rfl,P,Q⟩:=U l B H;exact⟨j,C,rfl,by rw[cK,WA (fun e=>I (by rw[e]))];exact P,Q⟩
  ·rw[cK] at M;split at M
   ·rename_i L;subst L;exact⟨en',by rw[cK,WJ rfl]⟩
   ·rename_i L;obtain⟨B,R⟩:=V j C M;exact⟨B,by rw[cK,WA (fun e=>L (aY3 _ _ e))];exact R⟩
 have G:∀{i:Nat} {en:VH} {ds:List (Nat×VH)} {K:List Nat},iD (r i) K=false->(∀k∈K,∃i T m T0 l0 pb,k=r i/\aX ds i=some (.box T m (some (A i)))/\aX σ.d k=some (.box T0 l0 pb))->∀k∈K,∃j T m T0 l0 pb,k=r j/\aX ((i,en)::ds) j=some (.box T m (some (A j)))/\aX σ.d k=some (.box T0 l0 pb):=by
  intro i en ds K z u k F;obtain⟨j,T,m,T0,l0,pb,rfl,h,S⟩:=u k F;have O:i≠j:=fun e=>by subst e;rw[iX.2 F] at z;cases z
  exact⟨j,T,m,T0,l0,pb,rfl,by rw[cK,WA O];exact h,S⟩
 induction h with
 |nil=>exact⟨fun l en h=>by simp[aX] at h,fun i en h=>by simp[aX] at h,fun k h=>by simp at h⟩
 |box N _ z u=>
  rename_i i T T0 l l0 pb ds D K _;obtain⟨a,b⟩:=step (i:=i) (en:= .box T l (some (A i))) (en':= .box T (fG r l) pb) ⟨u.1,u.2.1⟩ (.inr ⟨T,T0,l,l0,pb,rfl,rfl,N⟩);refine⟨a,b,fun k F=>?_⟩;rcases m5.1 F with rfl | F
  ·exact⟨i,T,l,T0,l0,pb,rfl,by rw[cK,WJ rfl],N⟩
  ·exact G z u.2.2 k F
 | R4 _ z u=>
  rename_i i T l ds D K _;obtain⟨a,b⟩:=step (i:=i) (en:= .box T l none) (en':= .box T (fG r l) none) ⟨u.1,u.2.1⟩ (.inl rfl);exact⟨a,b,G z u.2.2⟩
 |arr _ z u=>
  rename_i α i T e xs ds D K _;obtain⟨a,b⟩:=step (i:=i) (en:= .arr T e xs) (en':= .arr T e xs) ⟨u.1,u.2.1⟩ (.inl rfl);exact⟨a,b,G z u.2.2⟩
 |mp _ z u=>
  rename_i α β i e f m ds D K _;obtain⟨a,b⟩:=step (i:=i) (en:= .mp e f m) (en':= .mp e f m) ⟨u.1,u.2.1⟩ (.inl rfl);exact⟨a,b,G z u.2.2⟩
 |dp _ z u=>
  rename_i α i E x l ds D K _;obtain⟨a,b⟩:=step (i:=i) (en:= .dp E x l) (en':= .dp E x (l.map r)) ⟨u.1,u.2.1⟩ (.inl rfl);exact⟨a,b,G z u.2.2⟩
def iV(d:List (Nat×VH)):List Nat->List (Nat×VH)
 | []=>d
 |i::H=>wE (iV d H) i
theorem qA{d:List (Nat×VH)}{k:Nat}:∀{H:List Nat},aX (iV d H) k=if k∈H then none else aX d k
 | []=>by simp[iV]
 |i::H=>by
  rw[iV,Lb];by_cases h:k=i
  ·simp[h]
  ·rw[WA h,qA];simp[h]
def Bb(g:List (Nat×Slot))(rest:List (Nat×VH))(H K:List Nat)(D:List (Nat×VH)):Bool:=
 (g.all fun y=>y.2.YF.all fun l=> !iD l H || iD l K || !iD l (D.map (·.1))) && rest.all fun y=>y.2.YF.all fun l=> !iD l H || iD l K || !iD l (D.map (·.1))
def On(σ:AS)(H:List Nat)(D:List (Nat×VH)):Bool:=
 D.all fun x=>iD x.1 H || ((σ.d.all fun y=> !Nat.beq y.1 x.1 && !iD x.1 y.2.YF) && σ.g.all fun y=> !iD x.1 y.2.YF)
inductive w9 (σ:AS) (r:Nat->Nat):List Operand->List Slot->Prop
 |nil:w9 σ r [] []
 |cons {x:Operand} {s:Slot} {xs:List Operand} {l:List Slot}:Arg σ false x (s.map r)->w9 σ r xs l->w9 σ r (x::xs) (s::l)
theorem w9.spec{σ:AS}{r:Nat->Nat}{xs:List Operand}{l:List Slot}(h:w9 σ r xs l){ρ S a w}{ys:Array Operand}(Z9:∀x∈xs,x∈ys)(K:m7 σ ys ρ S a w):aW (fun i=>ρ (r i)) S w l (xs.map a.eval):=by
 induction h with
 |nil=>simp[aW]
 |cons z _ A=>
  rename_i x s xs l _;simp only[aW,E5];refine⟨_,_,rfl,?_,A fun y u=>Z9 y (Y8 _ u)⟩;rw[<-Lw];exact z ρ S a w ⟨K.low,fun y u=>K.slot y (by simp at u;subst u;exact Z9 _ Y9),fun y u=>K.y9 y (by simp at u;subst u;exact Z9 _ Y9)⟩
def l7(v:Value):Nat:=match v with | .pointer (some a)=>a.block | _=>0
section
variable {F:WV}{σ:AS}{s:Slot}{d:Option Tmp}{ty:TypeId}{p:String}{af:Array Edge}{gd:Option (Nat×Bool)}
theorem St.G4{ρ ρ':Nat->LV}{r:Nat->Nat}{A:Nat->Nat}{a:Act}{w w':World}{v:Value}{res:Slot}{XX VP D:List (Nat×VH)}{K H:List Nat}(hr:∀i j,r i=r j->i=j)(hc:Core F σ.d ρ w)
  (hs:∀t s,lk σ.g t=some s->s.ok ρ (Un F.S0 ρ σ.d) w (a.tmps.getD t undef)) (hz:a.tmps.size=F.N) (YR:a.defers=F.df) (hA:∀i b,(ρ (r i)).v= .pointer (some ⟨b,0,none⟩)->A i=b) (y3:w6 σ r A XX) (B8:YX σ r A VP D K)
  (hH:XX.map (fun x=>r x.1)=H) (XY:Bb σ.g (iV σ.d H) H K D=true) (M4:On σ H D=true) (YK:kY res VP=true) (gq:K.all (fun k=>iD k H)=true) (ZP:gN d F.N=true)
  (ho:dm (fun k=>Un F.S0 ρ σ.d k/\¬mN (fun i=>ρ (r i)) XX k) (mN (fun i=>ρ (r i)) XX) w res VP ρ' v w'):St F ⟨iO d (res.map r) σ.g,D++iV σ.d H⟩ (a.put d v) w':=by
 obtain⟨aa,a2,a3⟩:=B8.spec hr;have af:=y3.spec hc.own hA;have ah:∀i en,aX XX i=some en->r i∈H:=fun i en h=>by rw[<-hH];exact bh.2 ⟨(i,en),mO h,rfl⟩
 have ai:∀l,l∈H->∃i en,l=r i/\(i,en)∈XX:=fun l h=>by rw[<-hH] at h;obtain⟨x,B,z⟩:=bh.1 h;exact⟨x.1,x.2,z.symm,B⟩
 have a5:∀l,l∈H->∃i en,l=r i/\aX XX i=some en:=fun l h=>by
  obtain⟨i,en,B,z⟩:=ai l h;cases hx:aX XX i with
  |some e=>exact⟨i,e,B,hx⟩
  |none=>
   exfalso;clear y3 af hH ho ah ai
   induction XX with
   |nil=>simp at z
   |cons y XX ih=>
    obtain⟨j,ej⟩:=y;rw[cK] at hx;split at hx
    ·cases hx
    ·rename_i P5;rcases m5.1 z with z | z
     ·simp at z;exact P5 z.1.symm
     ·exact ih z hx
 have u6:∀k,mN (fun i=>ρ (r i)) XX k->∃l en,l∈H/\aX σ.d l=some en/\qS (ρ l) k:=by
  rintro k ⟨i,en,B,z⟩;obtain⟨⟨YT,u⟩,_⟩:=af i en B;exact⟨r i,YT,ah i en B,u,z⟩
 have aj:∀k,mN (fun i=>ρ (r i)) XX k->Un F.S0 ρ σ.d k:=fun k h=>by obtain⟨l,en,_,B,z⟩:=u6 k h;exact .inr ⟨l,en,B,z⟩
 have ZS:∀l en k,l∉H->aX σ.d l=some en->qS (ρ l) k->¬mN (fun i=>ρ (r i)) XX k:=by
  intro l en k Q B z u;obtain⟨M,C,E,G,L⟩:=u6 k u;exact Q (hc.inj l M en C k B G z L ▸ E)
 classical
 let ρn:Nat->LV:=fun l=>if h:∃i,l=r i/\(aX VP i).isSome=true then ρ' (Classical.choose h) else ρ l
 have R:∀i en,aX VP i=some en->ρn (r i)=ρ' i:=by
  intro i en h;have ad:∃j,r i=r j/\(aX VP j).isSome=true:=⟨i,rfl,by rw[h];rfl⟩;show (if h:∃j,r i=r j/\(aX VP j).isSome=true then ρ' (Classical.choose h) else ρ (r i))=_;rw[dif_pos ad];have:=aD2 ad;rw[<-hr _ _ this.1]
 have iu:∀l,(∀en,aX D l≠some en)->ρn l=ρ l:=by
  intro l h;have ad:¬∃i,l=r i/\(aX VP i).isSome=true:=by
   rintro⟨i,rfl,z⟩;cases hx:aX VP i with
   |none=>rw[hx] at z;cases z
   |some en=>obtain⟨C,u⟩:=a2 i en hx;exact h _ u
  show (if h:∃i,l=r i/\(aX VP i).isSome=true then ρ' (Classical.choose h) else ρ l)=_;rw[dif_neg ad]
 have hK:∀l,l∈K->(ρn l).v=(ρ l).v:=by
  intro l Q;obtain⟨i,T,m,T0,l0,pb,rfl,B,z⟩:=a3 l Q;have au:=(ho.own i _ B).2 (A i) rfl;obtain⟨⟨b,cs,X,_⟩,_⟩:=hc.own _ _ z;rw[R i _ B,au,X,hA i b X]
 have av:∀l,iD l (D.map (·.1))=false->∀en,aX D l≠some en:=fun l h en S=>by
  have B:l∈D.map (·.1):=bh.2 ⟨(l,en),mO S,rfl⟩;rw[iX.2 B] at h;cases h
 have u9:∀(q:Slot),(q.YF.all fun l=> !iD l H || iD l K || !iD l (D.map (·.1)))=true->(∀l∈q.YF,aX D l=none\/iD l H=true)->mM ρ ρn q.YF:=by
  intro q B z l Q;rcases z l Q with u | u
  ·exact congrArg LV.v (iu l fun en S=>by rw[u] at S;cases S)
  ·have:=j4.1 B l Q;rw[u] at this;cases hm:iD l (D.map (·.1)) with
   |false=>exact congrArg LV.v (iu l (av l hm))
   |true=>rw[hm] at this;exact hK l (iX.1 (by simpa using this))
 have sk:∀l en,aX D l=some en->iD l H=true\/((∀y∈σ.d,y.1≠l/\l∉y.2.YF)/\∀y∈σ.g,l∉y.2.YF):=by
  intro l en h;have:=j4.1 M4 _ (mO h);rcases Bool.or_eq_true_iff.1 this with h | h
  ·exact .inl h
  ·rw[D1,j4,j4] at h;refine .inr ⟨fun y hy=>?_,fun y hy N0=>?_⟩
   ·have u:=h.1 y hy;rw[D1] at u;refine⟨fun e=>?_,fun N0=>?_⟩
    ·have:=u.1;rw[e] at this;simp at this
    ·have:=u.2;rw[iX.2 N0] at this;cases this
   ·have:=h.2 y hy;rw[iX.2 N0] at this;cases this
 simp only[Bb,D1,j4] at XY;have va:∀t s,lk σ.g t=some s->mM ρ ρn s.YF:=by
  intro t s O;refine u9 s (j4.2 (XY.1 _ (Ls O))) fun l Q=>?_;cases hx:aX D l with
  |none=>exact .inl rfl
  |some en=>
   rcases sk l en hx with h |⟨_,h⟩
   ·exact .inr h
   ·exact absurd Q (h _ (Ls O))
 have M3:∀l en,l∉H->aX σ.d l=some en->ρn l=ρ l/\mM ρ ρn en.YF:=by
  intro l en Q h;refine⟨iu l fun C S=>?_,?_⟩
  ·rcases sk l C S with P |⟨P,_⟩
   ·exact Q (iX.1 P)
   ·exact(P _ (mO h)).1 rfl
  ·have YC:(l,en)∈iV σ.d H:=mO (by rw[qA,WA Q];exact h);have:=XY.2 _ YC;intro q hq;have B:=this q hq;cases hx:aX D q with
   |none=>exact congrArg LV.v (iu q fun en S=>by rw[hx] at S;cases S)
   |some C=>
    rcases sk q C hx with P |⟨P,_⟩
    ·have o7:q∈D.map (·.1):=bh.2 ⟨(q,C),mO hx,rfl⟩;rw[P,iX.2 o7] at B;exact hK q (iX.1 (by simpa using B))
    ·exact absurd hq (P _ (mO h)).2
 have M5:∀l en,aX (D++iV σ.d H) l=some en->aX D l=some en\/(aX D l=none/\l∉H/\aX σ.d l=some en):=by
  intro l en h;rw[gJ] at h;cases hx:aX D l with
  |some e=>rw[hx] at h;simp at h;subst h;exact .inl rfl
  |none=>
   rw[hx] at h;simp only[Option.none_or,qA] at h;split at h
   ·cases h
   ·rename_i hn;exact .inr ⟨rfl,hn,h⟩
 have am:∀k,Un F.S0 ρn (D++iV σ.d H) k->Un (fun k=>Un F.S0 ρ σ.d k/\¬mN (fun i=>ρ (r i)) XX k) ρ' VP k:=by
  rintro k (h |⟨l,en,B,z⟩)
  ·refine .inl ⟨.inl h,fun P=>?_⟩;obtain⟨l,en,_,u,E⟩:=u6 k P;exact hc.apart l en k u E h
  ·rcases M5 l en B with u |⟨_,u,E⟩
   ·obtain⟨i,C,rfl,G,_⟩:=aa l en u;rw[R i C G] at z;exact .inr ⟨i,C,G,z⟩
   ·rw[(M3 l en u E).1] at z;exact .inl ⟨.inr ⟨l,en,E,z⟩,ZS l en k u E z⟩
 have aw:∀k,k<w.heap.size->Un (fun k=>Un F.S0 ρ σ.d k/\¬mN (fun i=>ρ (r i)) XX k) ρ' VP k->Un F.S0 ρ σ.d k:=by
  rintro k U (h |⟨i,en,B,z⟩)
  ·exact h.1
  ·rcases (ho.fresh i en k B z).1 with h | h
   ·omega
   ·exact aj k h
 have an:Ext (Un (fun k=>Un F.S0 ρ σ.d k/\¬mN (fun i=>ρ (r i)) XX k) ρ' VP) (Un F.S0 ρn (D++iV σ.d H)) w' w':=⟨YO _,fun k _ U=>⟨rfl,fun h=>U (am k h)⟩⟩;have hE:Ext (Un F.S0 ρ σ.d) (Un F.S0 ρn (D++iV σ.d H)) w w':=⟨ho.size,fun k U hn=>⟨ho.frame k U (fun h=>hn (aj k h)),fun h=>hn (aw k U (am k h))⟩⟩;simp only[kY,D1,j4] at YK;have ay:∀i en,aX VP i=some en->mM ρ' (fun i=>ρn (r i)) en.YF:=by
  intro i en h j hj;have:=YK.2 _ (mO h) j hj;cases hx:aX VP j with
  |none=>rw[hx] at this;cases this
  |some e=>exact congrArg LV.v (R j e hx)
 have ax:Core F (D++iV σ.d H) ρn w':=by
  refine⟨hc.low,db hc.size ho.size,fun k U iq=>?_,ho.os.trans hc.os,ho.tape.trans hc.tape,ho.output.trans hc.output,fun l en h=>?_,fun l en b h I=>?_,fun l M en C b h P I V=>?_,fun l en b h I=>?_⟩
  ·rw[ho.frame k (O3 U hc.size) (fun h=>?_)]
   ·exact hc.frame k U iq
   ·obtain⟨l,en,_,B,z⟩:=u6 k h;rcases (hc.fresh l en k B z).1 with u | u
    ·omega
    ·exact iq u
  ·rcases M5 l en h with u |⟨_,u,E⟩
   ·obtain⟨i,C,rfl,G,L⟩:=aa l en u;have h7:=VH.VE (ρ':=fun i=>ρn (r i)) (ho.own i C G) an (ay i C G) (fun _ _=>rfl);rw[R i C G];rcases L with L |⟨T,T0,m,l0,pb,X,h9,R3⟩
    ·rw[L,Gw];exact h7
    ·subst X h9;obtain⟨jn,jl⟩:=h7;have az:((VH.box T m none).map r).ok ρn (Un F.S0 ρn (D++iV σ.d H)) w' (ρ' i):=by rw[Gw];exact⟨jn,fun c hc=>by cases hc⟩
     refine⟨az.1,fun c a1=>?_⟩;obtain⟨_,a4⟩:=hc.own _ _ R3;have a0:=a4 c a1;rw[jl (A i) rfl,hA i c a0]
   ·obtain⟨G,L⟩:=M3 l en u E;rw[G];exact VH.VE (hc.own l en E) hE L (fun b I=>ho.frame b (hc.fresh l en b E I).2 (ZS l en b u E I))
  ·rcases M5 l en h with u |⟨_,u,E⟩
   ·obtain⟨i,C,rfl,G,_⟩:=aa l en u;rw[R i C G] at I;obtain⟨L,h7⟩:=ho.fresh i C b G I;refine⟨?_,h7⟩;rcases L with L | L
    ·exact .inl (db hc.size L)
    ·obtain⟨M,e',_,X,h9⟩:=u6 b L;exact(hc.fresh M e' b X h9).1
   ·rw[(M3 l en u E).1] at I;exact⟨(hc.fresh l en b E I).1,O3 (hc.fresh l en b E I).2 ho.size⟩
  ·have ap:∀i bg l2 ae,aX VP i=some bg->qS (ρ' i) b->l2∉H->aX σ.d l2=some ae->qS (ρ l2) b->False:=by
    intro i bg l2 ae B z u E G;rcases (ho.fresh i bg b B z).1 with L | L
    ·have:=(hc.fresh l2 ae b E G).2;omega
    ·exact ZS l2 ae b u E G L
   rcases M5 l en h with u |⟨_,u,E⟩
   ·obtain⟨i,e1,rfl,G,_⟩:=aa l en u;rw[R i e1 G] at I;rcases M5 M C P with gr |⟨_,gr,ac⟩
    ·obtain⟨i',ab,rfl,yh,_⟩:=aa M C gr;rw[R i' ab yh] at V;rw[ho.inj i i' e1 ab b G yh I V]
    ·rw[(M3 M C gr ac).1] at V;exact(ap i e1 M C G I gr ac V).elim
   ·rw[(M3 l en u E).1] at I;rcases M5 M C P with gr |⟨_,gr,ac⟩
    ·obtain⟨i',ab,rfl,yh,_⟩:=aa M C gr;rw[R i' ab yh] at V;exact(ap i' ab l en yh V u E I).elim
    ·rw[(M3 M C gr ac).1] at V;exact hc.inj l M en C b E ac I V
  ·rcases M5 l en h with u |⟨_,u,E⟩
   ·obtain⟨i,C,rfl,G,_⟩:=aa l en u;rw[R i C G] at I;intro L;refine ho.apart i C b G I ⟨.inl L,fun h7=>?_⟩;obtain⟨M,e',_,X,h9⟩:=u6 b h7;exact hc.apart M e' b X h9 L
   ·rw[(M3 l en u E).1] at I;exact hc.apart l en b E I
 refine⟨⟨ρn,ax,fun t q O=>?_⟩,by rw[kW,hz],by cases d<;>exact YR⟩;have aq:∀t q,lk σ.g t=some q->q.ok ρn (Un F.S0 ρn (D++iV σ.d H)) w' (a.tmps.getD t undef):=fun t q O=>Slot.VE q _ (hs t q O) hE (va t q O);cases d with
 |none=>exact aq t q O
 |some q0=>
  simp only[iO] at O;have WZ:q0<a.tmps.size:=by rw[hz];exact w7 ZP
  rw[kX a q0 v t WZ];rw[mC] at O;split at O
  ·rename_i B;cases O;rw[WJ B,Lw];refine Slot.VE res v ho.slot an fun j hj=>?_;have:=YK.1 j hj;cases hx:aX VP j with
   |none=>rw[hx] at this;cases this
   |some e=>exact congrArg LV.v (R j e hx)
  ·rename_i B;rw[WA B];exact aq t q O
theorem uD{f:FuncId}{xs:List Operand}{ts:Array TypeId}{ss:List Slot}{res:Slot}{XX VP:(Nat->Nat)->List (Nat×VH)}{D:List (Nat×VH)}{K H:List Nat}(r:Nat->Nat)(hr:∀i j,r i=r j->i=j)
  (hc:∀A,VG F.P f ss (XX A) res (VP A)) (XK:∀args w,(callFunc f args).run F.P w= .ok (.enter f args) w) (ha:w9 σ r xs ss) (y3:∀A,w6 σ r A (XX A)) (B8:∀A,YX σ r A (VP A) D K)
  (hH:∀A,(XX A).map (fun x=>r x.1)=H) (XY:Bb σ.g (iV σ.d H) H K D=true) (M4:On σ H D=true) (YK:∀A,kY res (VP A)=true) (gq:K.all (fun k=>iD k H)=true) (ZP:gN d F.N=true):
  JM F ⟨d,.call ⟨.value (.func f),xs.toArray,ts⟩,ty,p,af,gd⟩ σ ⟨iO d (res.map r) σ.g,D++iV σ.d H⟩:=by
 rintro a w ⟨⟨ρ,z,R⟩,hz,YR⟩;let A:Nat->Nat:=fun i=>l7 (ρ (r i)).v
 have O:∀i b,(ρ (r i)).v= .pointer (some ⟨b,0,none⟩)->A i=b:=fun i b h=>by show l7 (ρ (r i)).v=b;rw[h];rfl
 have B:=(y3 A).spec z.own O;have S:∀k,(Un F.S0 ρ σ.d k/\¬mN (fun i=>ρ (r i)) (XX A) k)->k<w.heap.size:=by
  rintro k ⟨h |⟨i,u,L,M⟩,_⟩
  ·exact O3 (z.low k h) z.size
  ·exact(z.fresh i u k L M).2
 have Q:Un (fun k=>Un F.S0 ρ σ.d k/\¬mN (fun i=>ρ (r i)) (XX A) k) (fun i=>ρ (r i)) (XX A)=Un F.S0 ρ σ.d:=by
  funext k;refine propext ⟨fun h=>?_,fun h=>?_⟩
  ·rcases h with h |⟨i,u,L,M⟩
   ·exact h.1
   ·obtain⟨⟨I,C⟩,_⟩:=B i u L;exact .inr ⟨r i,I,C,M⟩
  ·by_cases E:mN (fun i=>ρ (r i)) (XX A) k
   ·exact .inr E
   ·exact .inl ⟨h,E⟩
 have T:Ins (fun k=>Un F.S0 ρ σ.d k/\¬mN (fun i=>ρ (r i)) (XX A) k) (fun i=>ρ (r i)) w (XX A):=by
  refine⟨fun i u h=>?_,fun i u b h G=>?_,fun i u b h G V=>V.2 ⟨i,u,h,G⟩,fun i j u X b hi hj bi bj=>?_⟩
  ·rw[Q];exact(B i u h).2
  ·obtain⟨⟨I,C⟩,_⟩:=B i u h;exact(z.fresh _ _ b C G).2
  ·obtain⟨⟨I,C⟩,_⟩:=B i u hi;obtain⟨⟨bg,h4⟩,_⟩:=B j X hj;exact hr _ _ (z.inj _ _ _ _ b C h4 bi bj)
 have K:=cI z R (Op.call ⟨.value (.func f),xs.toArray,ts⟩).operands;have U:=ha.spec (ys:=(Op.call ⟨.value (.func f),xs.toArray,ts⟩).operands) (fun x hx=>by simp[Op.operands,Call.operands,hx]) K;refine VJ.enter (uA XK) ((hc A _ w _ _ S T (by rw[Q];exact U)).mono ?_);rintro e w' ⟨v,ρ',rfl,E⟩;exact⟨v,rfl,St.G4 hr z R hz YR O (y3 A) (B8 A) (hH A) XY M4 (YK A) gq ZP E⟩
end
def TB(a b i:Nat):Nat:=bif Nat.beq i a then b else bif Nat.beq i b then a else i
def Bu:List (Nat×Nat)->Nat->Nat
 | [],i=>i
 | (a,b)::l,i=>Bu l (TB a b i)
theorem Zu(a b i:Nat):TB a b (TB a b i)=i:=by
 unfold TB;cases h1:Nat.beq i a<;>cases h2:Nat.beq i b<;>simp only[XG,pF,h1,h2]
 all_goals first
  | (have:=s8 h1;subst this;cases h3:Nat.beq b i<;>simp_all [zb];done)
  | (have:=s8 h2;subst this;cases h3:Nat.beq a i<;>simp_all [zb];done)
  |simp_all
theorem eO:∀(l:List (Nat×Nat)) (i j:Nat),Bu l i=Bu l j->i=j
 | [],_,_,h=>h
 | (a,b)::l,i,j,h=>by
  have:=eO l _ _ h;rw[<-Zu a b i,this,Zu]
end Go.Sw
