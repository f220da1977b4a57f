/- The library over the model: how values lie, what is ours in memory, rules for operations, calls, loops. Conditions: none. -/
import Derived.Orders
import Derived.Tactics
import Derived.Below
import Derived.TacticsIn
import Derived.OrdersIn
import Derived.Laws.Rows
import Derived.RangeFuncRecord
import Derived.Laws.StructEq
import Derived.Laws.AppendOwn
import Derived.Laws.CopyRow
import Derived.Laws.MakeOwn
import Derived.Laws.Tables
import Derived.ChangeKeysEq
import Derived.Laws.Cover3
set_option linter.unusedVariables false
set_option linter.unusedSimpArgs false
namespace Go.Sw
abbrev cM:=@Option.bind_some
abbrev pF:=@cond_false
abbrev pT:=@List.length_append
abbrev sM:=@Option.some.inj
abbrev ZI:=@Option.isSome_none
abbrev WR:=@cond_true
abbrev o5:=@Nat.eq_of_beq_eq_true
abbrev p8:=@Nat.le_of_ble_eq_true
abbrev j5:=@Int.toNat_natCast
abbrev C3:=@List.getElem?_eq_getElem
abbrev ZR:=@List.all_eq_true
abbrev ZL:=@decide_eq_false
abbrev XZ:=@Nat.le_refl
abbrev VN:=@if_neg
abbrev u9:=@List.append_assoc
abbrev u6:=@Option.some.injEq
abbrev VX:=@if_pos
abbrev j4:=@List.mem_cons
abbrev R2:=@List.getD_eq_getElem?_getD
abbrev A6:=@List.length_take
abbrev B0:=@List.length_cons
abbrev B9:=@Bool.and_eq_true
abbrev y3:=@decide_eq_true
abbrev eu:=@List.eq_nil_of_length_eq_zero
abbrev V4:=@List.getElem?_eq_none
abbrev V3:=@List.take_append_drop
abbrev O6:=@Nat.lt_of_lt_of_le
abbrev O5:=@Bool.false_eq_true
abbrev y6:=@decide_false
abbrev X4:=@List.mem_cons_of_mem
abbrev L7:=@Nat.mod_eq_of_lt
abbrev D9:=@List.map_cons
abbrev X6:=@Array.length_toList
abbrev J6:=@List.mem_append
abbrev X5:=@List.mem_cons_self
abbrev O8:=@List.length_drop
abbrev ZN:=@if_false
abbrev my:=@Array.getD_eq_getD_getElem?
abbrev O7:=@List.foldl_cons
abbrev ZH:=@if_true
abbrev V2:=@List.append_nil
abbrev V1:=@List.length_nil
abbrev J0:=@Nat.lt_or_ge
abbrev X3:=@List.nil_append
abbrev G9:=@Nat.add_mul
abbrev er:=@Option.isNone_none
abbrev R0:=@Prod.mk.injEq
abbrev dg:=@List.cons_append
abbrev mw:=@List.length_replicate
abbrev ug:=@Int.fdiv_eq_ediv_of_nonneg
abbrev eo:=@List.getElem_mem
abbrev iy:=@List.getElem?_map
abbrev yq:=@Array.getElem?_eq_some_iff
abbrev yp:=@List.getElem?_eq_some_iff
abbrev ai:=@Nat.le_trans
abbrev ah:=@List.mem_map
abbrev td:=@Nat.mul_le_mul_right
abbrev tc:=@List.getElem?_set_ne
abbrev ix:=@List.length_map
abbrev Y8:=@decide_true
abbrev sy:=@List.length_pos_iff
abbrev aBv:=@Array.getElem?_eq_getElem
abbrev aBw:=@List.getElem?_append_left
abbrev yo:=@Array.getElem?_eq_none
abbrev iw:=@List.mem_range
abbrev oe:=@Bool.not_eq_true'
abbrev iz:=@Bool.not_true
abbrev yw:=@List.mem_of_getElem?
abbrev aB2:=@List.getElem?_set_self
abbrev oj:=@Nat.min_eq_left
abbrev oh:=@Option.map_some
abbrev yv:=@List.filter_append
abbrev og:=@List.drop_left
abbrev aB7:=@List.getElem?_modify
abbrev yu:=@BitVec.toNat_ofNat
abbrev yr:=@List.mem_singleton
abbrev sx:=@List.mem_filter
abbrev aCb:=@List.take_of_length_le
abbrev yl:=@List.ext_getElem?
abbrev aCd:=@List.length_singleton
abbrev aCe:=@Nat.xor_lt_two_pow
abbrev yk:=@Option.getD_some
abbrev yj:=@Bool.not_eq_true
abbrev aCh:=@List.length_eq_one_iff
abbrev uf:=@Bool.not_false
abbrev aCj:=@Array.toList_modify
abbrev yi:=@Bool.or_eq_true
abbrev aCl:=@List.length_filter_le
abbrev aCm:=@List.zipIdx_cons
abbrev kn:=@Nat.mod_lt
abbrev oc:=@Nat.one_mul
abbrev yh:=@List.take_left
abbrev aCq:=@List.mem_of_mem_take
abbrev aCr:=@List.getElem?_set
abbrev aCs:=@Decidable.not_not
abbrev aCt:=@List.map_append
abbrev aCu:=@List.length_set
abbrev aCv:=@List.not_mem_nil
abbrev aCw:=@List.mapM_cons
abbrev aCx:=@Nat.mul_le_mul
abbrev aCy:=@Option.isSome_some
abbrev aCz:=@List.drop_eq_getElem_cons
abbrev aC0:=@List.mem_or_eq_of_mem_set
abbrev aC1:=@List.flatten_cons
abbrev aC2:=@decide_eq_true_eq
abbrev yn:=@Nat.beq_refl
abbrev ym:=@Nat.zero_add
abbrev aC5:=@List.foldl_append
abbrev aC6:=@List.getElem_append_left
abbrev aC7:=@Bool.eq_false_or_eq_true
abbrev ek:=@Ne.symm
abbrev aC9:=@List.filter_eq_self
abbrev aDa:=@List.map_toArray
abbrev aDb:=@List.take_length
abbrev aDc:=@List.any_eq_true
abbrev aDd:=@Nat.and_two_pow_sub_one_eq_mod
abbrev aDe:=@Nat.add_comm
abbrev aDf:=@Nat.add_zero
abbrev aDg:=@List.mem_filterMap
abbrev aDh:=@Array.getElem?_setIfInBounds
abbrev aDi:=@not_true_eq_false
abbrev aDj:=@Array.toList_push
abbrev aDk:=@of_decide_eq_true
abbrev aDl:=@Array.getElem?_append_left
abbrev aDm:=@Int.le_refl
abbrev aDn:=@List.mem_append_left
abbrev aDo:=@List.getElem?_append_right
abbrev aDp:=@Nat.mod_two_eq_zero_or_one
abbrev aDq:=@List.mem_of_mem_drop
abbrev aDr:=@List.replicate_succ
abbrev aDs:=@Nat.add_assoc
abbrev aDt:=@Nat.add_sub_cancel
abbrev aDu:=@List.getElem?_replicate
abbrev aDv:=@List.set_eq_take_append_cons_drop
abbrev aDw:=@List.mapM_toArray
abbrev aDx:=@List.drop_drop
abbrev aDy:=@List.drop_eq_nil_of_le
abbrev aDz:=@Array.all_eq_true_iff_forall_mem
abbrev aD0:=@List.map_nil
abbrev aD1:=@Nat.or_lt_two_pow
abbrev aD2:=@Classical.choose_spec
abbrev aD3:=@List.filter_cons
abbrev aD4:=@List.drop_append
abbrev aD5:=@List.mem_flatMap
abbrev aD6:=@List.eq_nil_iff_forall_not_mem
abbrev aD7:=@Array.size_replicate
abbrev aD8:=@Nat.pow_le_pow_right
abbrev aD9:=@Nat.shiftLeft_add_eq_or_of_lt
abbrev aEa:=@List.getElem_of_mem
abbrev aEb:=@Int.le_of_lt
abbrev aEc:=@Nat.mul_comm
abbrev aEd:=@List.idxOf_lt_length_of_mem
abbrev aEe:=@Nat.pow_succ
abbrev aEf:=@Array.foldl_toList
abbrev aEg:=@Nat.eq_zero_or_pos
abbrev aEh:=@Array.size_append
abbrev aEi:=@List.size_toArray
abbrev aEj:=@List.length_range
abbrev aEk:=@Nat.zero_le
abbrev aEl:=@List.any_eq_false
abbrev aEm:=@List.flatMap_cons
abbrev aEn:=@List.mapM_nil
abbrev aEo:=@Bool.true_and
abbrev aEp:=@BitVec.toNat_xor
abbrev aEq:=@BitVec.toNat_and
abbrev aEr:=@Option.getD_none
abbrev aEs:=@or_false
abbrev aEt:=@List.map_map
abbrev aEu:=@Int.tmod_nonneg
abbrev aEv:=@List.cons.injEq
abbrev aEw:=@Int.pow_pos
abbrev aEx:=@true_and
abbrev aEy:=@or_self
end Go.Sw
namespace Go.Sw
open Go Go.RowKit
structure Ext (S S':Nat->Prop) (w w':World):Prop where
 size:w.heap.size<=w'.heap.size
 E2:∀k,k<w.heap.size->¬S k->w'.heap[k]? =w.heap[k]?/\¬S' k
theorem Ext.refl(S:Nat->Prop)(w:World):Ext S S w w:=⟨XZ _,fun _ _ h=>⟨rfl,h⟩⟩
theorem Ext.trans{S S' S'':Nat->Prop}{w w' nm:World}(h:Ext S S' w w')(k:Ext S' S'' w' nm):Ext S S'' w nm:=
 ⟨ai h.size k.size,fun i u z=>by
  obtain⟨a,b⟩:=h.E2 i u z;obtain⟨c,d⟩:=k.E2 i (O6 u h.size) b
  exact⟨c.trans a,d⟩⟩
structure Wr (α:Type) where
 n:Nat
 agg:Bool
 ok:α->(Nat->Prop)->World->List Value->Prop
 len:∀{x S w cs},ok x S w cs->cs.length=n
 one:agg=false->n=1
 cell:∀{x S w cs},ok x S w cs->∀c∈cs,c.oneCell'=true
 mono:∀{x S S' w w' cs},ok x S w cs->Ext S S' w w'->ok x S' w' cs
theorem Qv{v:Value}(h:v.oneCell'=true):v.cells= #[v]:=by cases v<;>first | rfl | cases h
def Wr.pk{α:Type}(e:Wr α)(cs:List Value):Value:=if e.agg then .agg cs.toArray else cs.headD undef
def Wr.val{α:Type}(e:Wr α)(x:α)(S:Nat->Prop)(w:World)(v:Value):Prop:=∃cs,e.ok x S w cs/\v=e.pk cs
theorem gN{α:Type}{e:Wr α}{x:α}{S S' w w' v}(h:e.val x S w v)(k:Ext S S' w w'):e.val x S' w' v:=
 let ⟨cs,a,b⟩:=h;⟨cs,e.mono a k,b⟩
inductive Slot:Type 1
 |v {α:Type} (e:Wr α) (x:α)
 |ref (i:Nat)
 |ptr (i off:Nat)
 |cq (i off k n:Nat)
 |el (i k n off:Nat)
 |n9 (i off lo n cap:Nat)
 |ki (i off n cap:Nat)
 |sub (i off n:Nat)
 | XA {α:Type} (e:Wr α) (x:α)
 | YV (g:Nat) (cap:List Slot)
 |top
 |agg (l:List Slot)
 | VO (l:List Slot)
def VD(w:World)(b off:Nat)(cs:List Value):Prop:=
 ∃c T fr,w.heap[b]? =some (.cells c T fr)/\∀j (h:j<cs.length),c[off+j]? =some cs[j]
def YC(v:Value):Option Nat:=match v with | .pointer (some a)=>some a.block | .slice (some a) _ _=>some a.block | .map (some r)=>some r | _=>none
def Lh(v:Value)(n:Nat):Value:=match v with | .slice (some a) _ _=> .pointer (some ⟨a.block,a.off+n,none⟩) | v=>v
def EK(v:Value)(off n cap:Nat):Value:=match v with | .pointer (some a)=> .slice (some ⟨a.block,off,none⟩) n cap | v=>v
def EL(v:Value)(off n cap:Nat):Value:=match v with | .slice (some a) _ _=> .slice (some ⟨a.block,a.off+off,none⟩) n cap | v=>v
def Tf(v:Value)(off n c:Nat):Value:=match v with | .slice (some a) _ _=> .slice (some ⟨a.block,a.off+off,none⟩) n c | .slice none _ _=> .slice none n c | v=>v
def Cm(v:Value)(n:Nat):Value:=match v with | .pointer (some a)=> .pointer (some ⟨a.block,n,none⟩) | v=>v
structure LV where
 v:Value
 x:Nat->Prop
def LV.of(v:Value):LV:=⟨v,fun _=>False⟩
def qO(u:LV)(b:Nat):Prop:=YC u.v=some b\/u.x b
theorem pC{v:Value}{b:Nat}:qO (.of v) b↔YC v=some b:=⟨fun h=>h.elim id False.elim,.inl⟩
def Yx(v:Value):Prop:=(∃a l c,v= .slice a l c)\/∃r,v= .map r
mutual
def Slot.YI(ρ:Nat->LV)(S:Nat->Prop)(w:World):Slot->List Value->Prop
 | .v e x,h=>e.ok x S w h
 | .ref i,h=>Yx (ρ i).v/\h=[(ρ i).v]
 | .ptr i off,h=>(∃b,(ρ i).v= .pointer (some ⟨b,0,none⟩))/\h=[Cm (ρ i).v off]
 | .cq i off k n,h=>(∃b,(ρ i).v= .pointer (some ⟨b,0,none⟩))/\h=[Cm (ρ i).v (off+k*n)]
 | .el i k n off,h=>(∃b o l c,(ρ i).v= .slice (some ⟨b,o,none⟩) l c)/\h=[Lh (ρ i).v (k*n+off)]
 | .n9 i off u n cap,h=>(∃b,(ρ i).v= .pointer (some ⟨b,0,none⟩))/\h=[EK (ρ i).v (off+u) n cap]
 | .ki i off n cap,h=>(∃b o l c,(ρ i).v= .slice (some ⟨b,o,none⟩) l c)/\h=[EL (ρ i).v off n cap]
 | .sub i off n,h=>(∃a l c,(ρ i).v= .slice a l c)/\∃c o,n<=c/\(o=off\/n=0)/\h=[Tf (ρ i).v o n c]
 | .XA e x,h=>∃b off ds,h=[.pointer (some ⟨b,off,none⟩)]/\b<w.heap.size/\¬S b/\VD w b off ds/\e.ok x S w ds
 | .YV g cap,h=>∃vs,h=[.func (.func g) #[] vs.toArray]/\aX ρ S w cap vs
 | .top,h=>h=[undef]
 | .agg _,_=>False
 | .VO _,_=>False
def aX(ρ:Nat->LV)(S:Nat->Prop)(w:World):List Slot->List Value->Prop
 | [],vs=>vs=[]
 |s::r,vs=>∃u E4,vs=u::E4/\Slot.ok ρ S w s u/\aX ρ S w r E4
def aZ(ρ:Nat->LV)(S:Nat->Prop)(w:World):List Slot->List Value->Prop
 | [],h=>h=[]
 |s::r,h=>∃c d,h=c++d/\Slot.YI ρ S w s c/\aZ ρ S w r d
def Slot.ok(ρ:Nat->LV)(S:Nat->Prop)(w:World):Slot->Value->Prop
 | .v e x,u=>e.val x S w u
 | .ref i,u=>Yx (ρ i).v/\u=(ρ i).v
 | .ptr i off,u=>(∃b,(ρ i).v= .pointer (some ⟨b,0,none⟩))/\u=Cm (ρ i).v off
 | .cq i off k n,u=>(∃b,(ρ i).v= .pointer (some ⟨b,0,none⟩))/\u=Cm (ρ i).v (off+k*n)
 | .el i k n off,u=>(∃b o l c,(ρ i).v= .slice (some ⟨b,o,none⟩) l c)/\u=Lh (ρ i).v (k*n+off)
 | .n9 i off h n cap,u=>(∃b,(ρ i).v= .pointer (some ⟨b,0,none⟩))/\u=EK (ρ i).v (off+h) n cap
 | .ki i off n cap,u=>(∃b o l c,(ρ i).v= .slice (some ⟨b,o,none⟩) l c)/\u=EL (ρ i).v off n cap
 | .sub i off n,u=>(∃a l c,(ρ i).v= .slice a l c)/\∃c o,n<=c/\(o=off\/n=0)/\u=Tf (ρ i).v o n c
 | .XA e x,u=>∃b off ds,u= .pointer (some ⟨b,off,none⟩)/\b<w.heap.size/\¬S b/\VD w b off ds/\e.ok x S w ds
 | .YV g cap,u=>∃vs,u= .func (.func g) #[] vs.toArray/\aX ρ S w cap vs
 | .top,u=>u=undef
 | .agg l,u=>∃cs,u= .agg cs.toArray/\aZ ρ S w l cs
 | .VO l,u=>∃vs,u= .tuple vs.toArray/\aX ρ S w l vs
end
def mJ(ρ ρ':Nat->LV)(l:List Nat):Prop:=∀i∈l,(ρ' i).v=(ρ i).v
mutual
def Slot.XO:Slot->List Nat
 | .ref i=>[i]
 | .ptr i _=>[i]
 | .cq i _ _ _=>[i]
 | .el i _ _ _=>[i]
 | .n9 i _ _ _ _=>[i]
 | .ki i _ _ _=>[i]
 | .sub i _ _=>[i]
 | .YV _ l=>dR l
 | .agg l=>dR l
 | .VO l=>dR l
 |_=>[]
def dR:List Slot->List Nat
 | []=>[]
 |s::r=>s.XO++dR r
end
theorem VD.mono{S S':Nat->Prop}{w w':World}{b off:Nat}{cs:List Value}(h:VD w b off cs)(hb:b<w.heap.size)(hs:¬S b)(k:Ext S S' w w'):VD w' b off cs:=by
 obtain⟨c,T,u,z,A⟩:=h;exact⟨c,T,u,by rw[(k.E2 b hb hs).1];exact z,A⟩
section
variable {ρ ρ':Nat->LV}{S S':Nat->Prop}{w w':World}
mutual
theorem vB:∀(s:Slot) (cs:List Value),s.YI ρ S w cs->Ext S S' w w'->mJ ρ ρ' s.XO->s.YI ρ' S' w' cs
 | .v e x,cs,h,k,_=>e.mono h k
 | .ref i,cs,h,_,a=>by simp only[Slot.YI] at h ⊢;rw[a i (by simp[Slot.XO])];exact h
 | .ptr i u,cs,h,_,a=>by simp only[Slot.YI] at h ⊢;rw[a i (by simp[Slot.XO])];exact h
 | .cq i u j n,cs,h,_,a=>by simp only[Slot.YI] at h ⊢;rw[a i (by simp[Slot.XO])];exact h
 | .el i k n u,cs,h,_,a=>by simp only[Slot.YI] at h ⊢;rw[a i (by simp[Slot.XO])];exact h
 | .n9 i u F n cap,cs,h,_,a=>by simp only[Slot.YI] at h ⊢;rw[a i (by simp[Slot.XO])];exact h
 | .ki i u n cap,cs,h,_,a=>by simp only[Slot.YI] at h ⊢;rw[a i (by simp[Slot.XO])];exact h
 | .sub i u n,cs,h,_,a=>by simp only[Slot.YI] at h ⊢;rw[a i (by simp[Slot.XO])];exact h
 | .XA e x,cs,h,k,_=>by
  simp only[Slot.YI] at h ⊢;obtain⟨b,u,C,A,z,B,D,E⟩:=h;exact⟨b,u,C,A,O6 z k.size,(k.E2 b z B).2,D.mono z B k,e.mono E k⟩
 | .YV g cap,cs,h,k,a=>by
  simp only[Slot.YI] at h ⊢;obtain⟨vs,A,z⟩:=h;exact⟨vs,A,nA cap vs z k (by simpa[Slot.XO] using a)⟩
 | .top,cs,h,_,_=>by simpa only[Slot.YI] using h
 | .agg l,cs,h,_,_=>by simp[Slot.YI] at h
 | .VO l,cs,h,_,_=>by simp[Slot.YI] at h
theorem nA:∀(l:List Slot) (vs:List Value),aX ρ S w l vs->Ext S S' w w'->mJ ρ ρ' (dR l)->aX ρ' S' w' l vs
 | [],vs,h,_,_=>by simpa only[aX] using h
 |s::r,vs,h,k,a=>by
  simp only[aX] at h ⊢;obtain⟨u,A,B,C,D⟩:=h;exact⟨u,A,B,Slot.UR s u C k (fun i z=>a i (by simp[dR,z])),nA r A D k (fun i z=>a i (by simp[dR,z]))⟩
theorem fN:∀(l:List Slot) (vs:List Value),aZ ρ S w l vs->Ext S S' w w'->mJ ρ ρ' (dR l)->aZ ρ' S' w' l vs
 | [],vs,h,_,_=>by simpa only[aZ] using h
 |s::r,vs,h,k,a=>by
  simp only[aZ] at h ⊢;obtain⟨u,A,B,C,D⟩:=h;exact⟨u,A,B,vB s u C k (fun i z=>a i (by simp[dR,z])),fN r A D k (fun i z=>a i (by simp[dR,z]))⟩
theorem Slot.UR:∀(s:Slot) (u:Value),s.ok ρ S w u->Ext S S' w w'->mJ ρ ρ' s.XO->s.ok ρ' S' w' u
 | .v e x,z,h,k,_=>by simp only[Slot.ok] at h ⊢;exact gN h k
 | .ref i,z,h,_,a=>by simp only[Slot.ok] at h ⊢;rw[a i (by simp[Slot.XO])];exact h
 | .ptr i B,z,h,_,a=>by simp only[Slot.ok] at h ⊢;rw[a i (by simp[Slot.XO])];exact h
 | .cq i B j n,z,h,_,a=>by simp only[Slot.ok] at h ⊢;rw[a i (by simp[Slot.XO])];exact h
 | .el i k n B,z,h,_,a=>by simp only[Slot.ok] at h ⊢;rw[a i (by simp[Slot.XO])];exact h
 | .n9 i B H n cap,z,h,_,a=>by simp only[Slot.ok] at h ⊢;rw[a i (by simp[Slot.XO])];exact h
 | .ki i B n cap,z,h,_,a=>by simp only[Slot.ok] at h ⊢;rw[a i (by simp[Slot.XO])];exact h
 | .sub i B n,z,h,_,a=>by simp only[Slot.ok] at h ⊢;rw[a i (by simp[Slot.XO])];exact h
 | .XA e x,z,h,k,_=>by
  simp only[Slot.ok] at h ⊢;obtain⟨b,B,E,C,A,D,F,G⟩:=h;exact⟨b,B,E,C,O6 A k.size,(k.E2 b A D).2,F.mono A D k,e.mono G k⟩
 | .YV g cap,z,h,k,a=>by
  simp only[Slot.ok] at h ⊢;obtain⟨vs,C,A⟩:=h;exact⟨vs,C,nA cap vs A k (by simpa[Slot.XO] using a)⟩
 | .top,z,h,_,_=>by simpa only[Slot.ok] using h
 | .agg l,z,h,k,a=>by
  simp only[Slot.ok] at h ⊢;obtain⟨vs,C,A⟩:=h;exact⟨vs,C,fN l vs A k (by simpa[Slot.XO] using a)⟩
 | .VO l,z,h,k,a=>by
  simp only[Slot.ok] at h ⊢;obtain⟨vs,C,A⟩:=h;exact⟨vs,C,nA l vs A k (by simpa[Slot.XO] using a)⟩
end
end
def Wr.YG{α:Type}(e:Wr α):List α->(Nat->Prop)->World->List Value->Prop
 | [],_,_,h=>h=[]
 |x::xs,S,w,h=>∃c d,h=c++d/\e.ok x S w c/\Wr.YG e xs S w d
section
variable {α:Type}{e:Wr α}{S S':Nat->Prop}{w w':World}
theorem Wr.VB:∀{xs:List α} {cs},e.YG xs S w cs->Ext S S' w w'->e.YG xs S' w' cs
 | [],_,h,_=>h
 |_::_,_,⟨c,d,u,z,A⟩,k=>⟨c,d,u,e.mono z k,Wr.VB A k⟩
theorem cP:∀{xs:List α} {cs},e.YG xs S w cs->cs.length=xs.length*e.n
 | [],_,h=>by simp only[Wr.YG] at h;simp[h]
 |x::xs,_,⟨c,d,u,z,A⟩=>by rw[u,pT,e.len z,cP A,B0,G9,oc,aDe]
theorem rB:∀{xs:List α} {cs},e.YG xs S w cs->∀c∈cs,c.oneCell'=true
 | [],_,h=>by simp only[Wr.YG] at h;simp[h]
 |x::xs,_,⟨c,d,z,A,B⟩=>by
  intro y u;rw[z] at u;rcases J6.1 u with u | u
  ·exact e.cell A y u
  ·exact rB B y u
theorem gI:∀{xs ys:List α} {cs ds},e.YG xs S w cs->e.YG ys S w ds->e.YG (xs++ys) S w (cs++ds)
 | [],_,_,_,h,k=>by simp only[Wr.YG] at h;simpa[h] using k
 |x::xs,ys,_,ds,⟨c,d,u,z,A⟩,k=>⟨c,d++ds,by rw[u,u9],z,gI A k⟩
theorem yU:∀{xs ys:List α} {cs},e.YG (xs++ys) S w cs->∃c d,cs=c++d/\e.YG xs S w c/\e.YG ys S w d
 | [],_,cs,h=>⟨[],cs,rfl,rfl,h⟩
 |x::xs,ys,_,⟨c,d,D,E,F⟩=>by
  obtain⟨u,z,A,B,C⟩:=yU (xs:=xs) F;exact⟨c++u,z,by rw[D,A,u9],⟨c,u,rfl,E,B⟩,C⟩
theorem qP{xs:List α}{cs}(h:e.YG xs S w cs){i:Nat}{x:α}(hx:xs[i]? =some x):
  ∃a c b,cs=a++(c++b)/\a.length=i*e.n/\e.ok x S w c/\(∀y c',e.ok y S w c'->e.YG (xs.set i y) S w (a++(c'++b))):=by
 have u:i<xs.length:=by
  rcases J0 i xs.length with h | h
  ·exact h
  ·simp[V4 h] at hx
 have B:xs[i]=x:=by simpa[C3 u] using hx
 have C:xs=xs.take i++(x::xs.drop (i+1)):=by
  rw[<-B,List.getElem_cons_drop,V3]
 have z:=h;rw[C] at z;obtain⟨a,d,E,A,c,b,F,G,H⟩:=yU z;refine⟨a,c,b,by rw[E,F],?_,G,fun y c' D=>?_⟩
 ·rw[cP A,A6];rw[oj (Nat.le_of_lt u)]
 ·have:xs.set i y=xs.take i++(y::xs.drop (i+1)):=by
   rw[aDv,VX u]
  rw[this];exact gI A ⟨c',b,rfl,D,H⟩
end
structure DE (α:Type) where
 ok:α->(Nat->Prop)->World->LV->List Value->Prop
 mono:∀{x:α} {S S':Nat->Prop} {w w':World} {u:LV} {l:List Value},ok x S w u l->Ext S S' w w'->(∀b,qO u b->w'.heap[b]? =w.heap[b]?)->ok x S' w' u l
inductive UU:Type 1
 |box (T:TypeId) (l:List Slot) (pb:Option Nat:=none)
 |arr {α:Type} (T:TypeId) (e:Wr α) (xs:List α)
 |mp {α β:Type} (e:Wr α) (f:Wr β) (m:List (α×β))
 |dp {α:Type} (D:DE α) (x:α) (ls:List Nat)
def Wq{α β:Type}(e:Wr α)(f:Wr β)(S:Nat->Prop)(w:World):List (α×β)->List MapEntry->Prop
 | [],[]=>True
 | (k,v)::m,x::xs=>e.val k S w x.key/\f.val v S w x.val/\Wq e f S w m xs
 |_,_=>False
theorem zE{α β:Type}{e:Wr α}{f:Wr β}{S S':Nat->Prop}{w w':World}(k:Ext S S' w w'):∀{m:List (α×β)} {xs:List MapEntry},Wq e f S w m xs->Wq e f S' w' m xs
 | [],[],_=>trivial
 | (_,_)::_,_::_,⟨u,z,A⟩=>⟨gN u k,gN z k,zE k A⟩
 | [],_::_,h=>h
 |_::_,[],h=>h
def UU.ok(ρ:Nat->LV)(S:Nat->Prop)(w:World)(u:LV):UU->Prop
 | .box T l h=>(∃b cs,u.v= .pointer (some ⟨b,0,none⟩)/\w.heap[b]? =some (.cells cs.toArray T (0,0))/\aZ ρ S w l cs)/\∀c,h=some c->u.v= .pointer (some ⟨c,0,none⟩)
 | .arr T e xs=>(xs=[]/\u.v= .slice none 0 0)\/∃b cap pre cs post,u.v= .slice (some ⟨b,pre.length,none⟩) xs.length cap/\
   w.heap[b]? =some (.cells (pre++(cs++post)).toArray T (0,0))/\e.YG xs S w cs/\xs.length<=cap/\cap*e.n<=cs.length+post.length/\xs.length<=140737488355328
 | .mp e f m=>∃b es ck,u.v= .map (some b)/\w.heap[b]? =some (.map es ck)/\Wq e f S w m es.toList
 | .dp D x z=>D.ok x S w u (z.map fun l=>(ρ l).v)
def UU.XO:UU->List Nat
 | .box _ l _=>dR l
 | .arr _ _ _=>[]
 | .mp _ _ _=>[]
 | .dp _ _ h=>h
theorem UU.UR{ρ ρ':Nat->LV}{S S':Nat->Prop}{w w':World}{u:LV}{en:UU}(h:en.ok ρ S w u)(k:Ext S S' w w')(a:mJ ρ ρ' en.XO)
  (hb:∀b,qO u b->w'.heap[b]? =w.heap[b]?):en.ok ρ' S' w' u:=by
 cases en with
 |box T l O=>
  obtain⟨⟨b,C,z,A,B⟩,E⟩:=h;exact⟨⟨b,C,z,by rw[hb b (.inl (by simp[z,YC]))];exact A,fN l C B k a⟩,E⟩
 |arr T e xs=>
  rcases h with h |⟨b,K,L,C,M,z,A,B,E,N⟩
  ·exact .inl h
  ·exact .inr ⟨b,K,L,C,M,z,by rw[hb b (.inl (by simp[z,YC]))];exact A,Wr.VB B k,E,N⟩
 |mp e f m=>
  obtain⟨b,H,I,z,A,B⟩:=h;exact⟨b,H,I,z,by rw[hb b (.inl (by simp[z,YC]))];exact A,zE k B⟩
 |dp D x F=>
  have:=D.mono h k hb;simp only[UU.ok];have e:(F.map fun l=>(ρ' l).v)=F.map fun l=>(ρ l).v:=List.map_congr_left fun l G=>a l G;rw[e];exact this
def lk:List (Nat×Slot)->Nat->Option Slot
 | [],_=>none
 | (i,s)::r,t=>bif Nat.beq i t then some s else lk r t
def aW:List (Nat×UU)->Nat->Option UU
 | [],_=>none
 | (i,s)::r,t=>bif Nat.beq i t then some s else aW r t
structure AS:Type 1 where
 g:List (Nat×Slot)
 d:List (Nat×UU)
structure WK where
 P:Program
 N:Nat
 S0:Nat->Prop
 w0:World
 R:Nat->Prop
 rd:Option Nat
 df:List Deferred
def mL(ρ:Nat->LV)(d:List (Nat×UU))(k:Nat):Prop:=∃i en,aW d i=some en/\qO (ρ i) k
def Un(S:Nat->Prop)(ρ:Nat->LV)(d:List (Nat×UU))(k:Nat):Prop:=S k\/mL ρ d k
structure Core (F:WK) (d:List (Nat×UU)) (ρ:Nat->LV) (w:World):Prop where
 low:∀k,F.S0 k->k<F.w0.heap.size
 size:F.w0.heap.size<=w.heap.size
 frame:∀k,k<F.w0.heap.size->¬F.R k->w.heap[k]? =F.w0.heap[k]?
 os:w.os=F.w0.os
 tape:w.tape=F.w0.tape
 output:w.output=F.w0.output
 own:∀i en,aW d i=some en->en.ok ρ (Un F.S0 ρ d) w (ρ i)
 fresh:∀i en b,aW d i=some en->qO (ρ i) b->(F.w0.heap.size<=b\/F.R b)/\b<w.heap.size
 inj:∀i j en en' b,aW d i=some en->aW d j=some en'->qO (ρ i) b->qO (ρ j) b->i=j
 apart:∀i en b,aW d i=some en->qO (ρ i) b->¬F.S0 b
structure St (F:WK) (σ:AS) (a:Act) (w:World):Prop where
 core:∃ρ,Core F σ.d ρ w/\∀t s,lk σ.g t=some s->s.ok ρ (Un F.S0 ρ σ.d) w (a.tmps.getD t undef)
 size:a.tmps.size=F.N
 defers:a.defers=F.df
end Go.Sw
namespace Go.Sw
open Go Go.RowKit
def Co(k:IntKind)(n:Int):Prop:=k.min<=n/\n<=k.max
instance (k:IntKind) (n:Int):Decidable (Co k n):=inferInstanceAs (Decidable (_/\_))
def Wr.int(k:IntKind):Wr Int where
 n:=1
 agg:=false
 ok x _ _ cs:=cs=[.int k x]/\Co k x
 len h:=by rw[h.1];rfl
 one _:=rfl
 cell h c hc:=by rw[h.1] at hc;simp at hc;subst hc;rfl
 mono h _:=h
def Wr.bool:Wr Bool where
 n:=1
 agg:=false
 ok x _ _ cs:=cs=[.bool x]
 len h:=by rw[h];rfl
 one _:=rfl
 cell h c hc:=by rw[h] at hc;simp at hc;subst hc;rfl
 mono h _:=h
def Wr.str:Wr ByteArray where
 n:=1
 agg:=false
 ok x _ _ cs:=cs=[.string x]/\x.size<=9223372036854775807
 len h:=by rw[h.1];rfl
 one _:=rfl
 cell h c hc:=by rw[h.1] at hc;simp at hc;subst hc;rfl
 mono h _:=h
theorem vC{k:IntKind}{x:Int}{S w u}:(Wr.int k).val x S w u↔u= .int k x/\Co k x:=by
 constructor
 ·rintro⟨z,⟨rfl,h⟩,rfl⟩;exact⟨rfl,h⟩
 ·rintro⟨rfl,h⟩;exact⟨_,⟨rfl,h⟩,rfl⟩
theorem zF{x:Bool}{S w u}:Wr.bool.val x S w u↔u= .bool x:=by
 constructor
 ·rintro⟨h,rfl,rfl⟩;rfl
 ·rintro rfl;exact⟨_,rfl,rfl⟩
theorem KE{x:ByteArray}{S w u}:Wr.str.val x S w u↔u= .string x/\x.size<=9223372036854775807:=by
 constructor
 ·rintro⟨z,⟨rfl,h⟩,rfl⟩;exact⟨rfl,h⟩
 ·rintro⟨rfl,h⟩;exact⟨_,⟨rfl,h⟩,rfl⟩
def UX(P:Program)(o:Oper)(a:Act)(w:World)(K:Value->World->Prop):Prop:=
 (∃v w',(execOp a.eval o).run P w= .ok (.value v) w'/\K v w')\/(∃w',(execOp a.eval o).run P w= .ok .skip w'/\K undef w')\/
 (∃f args w',(execOp a.eval o).run P w= .ok (.enter f args) w'/\Calls P f args w' fun e h=>∃v,e= .returned v/\K v h)\/
 (∃l f tmps assign body w',(execOp a.eval o).run P w= .ok (.round l f tmps assign body) w'/\RoundIn Fence.wide 0 P l f tmps assign body w' fun e h=>∃v,e= .returned v/\K v h)
theorem Ak{P:Program}{o:Oper}{a:Act}{w w':World}{x:Next}(h:(execOp a.eval o).run P w= .ok x w')(hx:∀d,x≠.defer d)(l:Option Nat):o.semAt l a.eval=execOp a.eval o:=by
 refine Oper.semAt_eq _ _ _ fun c u=>?_;unfold execOp at h;rw[u] at h;simp only[Sem.run_bind] at h;cases hr:(resolve a.eval c o.type).run P w with
 |ok d z=>rw[hr] at h;simp at h;exact hx d h.1.symm
 |halt x z=>rw[hr] at h;simp at h
abbrev WK.fe(F:WK):Fence:={ Fence.wide with round:=F.rd }
theorem UX.wpIn{P:Program}{o:Oper}{a:Act}{w:World}{K:Value->World->Prop}(h:UX P o a w K){l:Option Nat}{next:Act->World->Prop}{Q:Exit->Act->World->Prop}(hn:∀v w',K v w'->next (a.put o.dst v) w'):
  o.wpIn { Fence.wide with round:=l } 0 P a w next Q:=by
 refine⟨fun _ _=>trivial,?_⟩;rcases h with⟨v,w',h,k⟩|⟨w',h,k⟩|⟨f,D,w',h,k⟩|⟨z,f,A,B,body,w',h,k⟩
 ·rw[Ak h (fun _ h=>by cases h),h];exact hn v w' k
 ·rw[Ak h (fun _ h=>by cases h),h];exact hn undef w' k
 ·rw[Ak h (fun _ h=>by cases h),h];refine⟨fun h=>(by cases h),?_⟩;refine CallsIn.mono (callsIn_wide.2 k) ?_;rintro e C ⟨v,rfl,u⟩;exact hn _ _ u
 ·rw[Ak h (fun _ h=>by cases h),h];refine⟨fun h=>(by cases h),?_⟩;refine RoundIn.mono (show RoundIn { Fence.wide with round:=l } (0 - 1) P z f A B body w' _ from k) ?_;rintro e C ⟨v,rfl,u⟩;exact hn _ _ u
theorem UX.value{P:Program}{o:Oper}{a:Act}{w w':World}{v:Value}{K:Value->World->Prop}(h:(execOp a.eval o).run P w= .ok (.value v) w')(k:K v w'):UX P o a w K:= .inl ⟨v,w',h,k⟩
theorem UX.skip{P:Program}{o:Oper}{a:Act}{w w':World}{K:Value->World->Prop}(h:(execOp a.eval o).run P w= .ok .skip w')(k:K undef w'):UX P o a w K:= .inr (.inl ⟨w',h,k⟩)
theorem UX.enter{P:Program}{o:Oper}{a:Act}{w w':World}{f:FuncId}{args:Array Value}{K:Value->World->Prop}(h:(execOp a.eval o).run P w= .ok (.enter f args) w')
  (k:Calls P f args w' fun e nm=>∃v,e= .returned v/\K v nm):UX P o a w K:= .inr (.inr (.inl ⟨f,args,w',h,k⟩))
theorem UX.mono{P:Program}{o:Oper}{a:Act}{w:World}{K K':Value->World->Prop}(h:UX P o a w K)(k:∀v w',K v w'->K' v w'):UX P o a w K':=by
 rcases h with⟨v,w',h,u⟩|⟨w',h,u⟩|⟨f,C,w',h,u⟩|⟨D,f,E,F,body,w',h,u⟩
 ·exact .inl ⟨v,w',h,k _ _ u⟩
 ·exact .inr (.inl ⟨w',h,k _ _ u⟩)
 ·exact .inr (.inr (.inl ⟨f,C,w',h,u.mono fun e B ⟨v,z,A⟩=>⟨v,z,k _ _ A⟩⟩))
 ·exact .inr (.inr (.inr ⟨D,f,E,F,body,w',h,u.mono fun e B ⟨v,z,A⟩=>⟨v,z,k _ _ A⟩⟩))
def EM:Value->Option Slot
 | .int k n=>if Co k n then some (.v (Wr.int k) n) else none
 | .bool b=>some (.v Wr.bool b)
 | .string s=>if s.size<=9223372036854775807 then some (.v Wr.str s) else none
 |_=>none
def cZ(g:List (Nat×Slot)):Operand->Option Slot
 | .tmp t=>lk g t
 | .const u=>EM u
 |_=>none
theorem Li{u:Value}{s:Slot}(h:EM u=some s)(ρ:Nat->LV)(S:Nat->Prop)(w:World):s.ok ρ S w u/\s.XO=[]:=by
 cases u<;>simp only[EM] at h
 case int k n=>
  split at h
  ·rename_i z;cases h;exact⟨by simp only[Slot.ok];exact vC.2 ⟨rfl,z⟩,rfl⟩
  ·cases h
 case bool b=>cases h;exact⟨by simp only[Slot.ok];exact zF.2 rfl,rfl⟩
 case string b=>
  split at h
  ·rename_i z;cases h;exact⟨by simp only[Slot.ok];exact KE.2 ⟨rfl,z⟩,rfl⟩
  ·cases h
 all_goals cases h
structure kq (ρ:Nat->LV) (S:Nat->Prop) (w w':World) (new:List (Nat×UU)):Prop where
 own:∀i en,aW new i=some en->en.ok ρ S w' (ρ i)
 fresh:∀i en b,aW new i=some en->qO (ρ i) b->w.heap.size<=b/\b<w'.heap.size
 inj:∀i j en en' b,aW new i=some en->aW new j=some en'->qO (ρ i) b->qO (ρ j) b->i=j
def WU(ρ:Nat->LV)(S:Nat->Prop)(w:World)(s:Slot)(new:List (Nat×UU))(v:Value)(w':World):Prop:=
 ∃ρ',(∀i,aW new i=none->ρ' i=ρ i)/\Below w.heap.size w w'/\s.ok ρ' (Un S ρ' new) w' v/\kq ρ' (Un S ρ' new) w w' new
structure j6 (σ:AS) (xs:Array Operand) (ρ:Nat->LV) (S:Nat->Prop) (a:Act) (w:World):Prop where
 low:∀k,S k->k<w.heap.size
 slot:∀x∈xs,∀s,cZ σ.g x=some s->s.ok ρ S w (a.eval x)
 w7:∀x∈xs,∀s,cZ σ.g x=some s->∀i∈s.XO,∀en,aW σ.d i=some en->en.ok ρ S w (ρ i)/\∀b,qO (ρ i) b->S b/\b<w.heap.size
def JO(F:WK)(o:Oper)(σ:AS)(s:Slot)(new:List (Nat×UU)):Prop:=
 ∀ρ S a w,j6 σ o.op.operands ρ S a w->UX F.P o a w (WU ρ S w s new)
def AS.put(σ:AS)(dst:Option Tmp)(s:Slot)(new:List (Nat×UU)):AS:=
 ⟨match dst with | some d=>(d,s)::σ.g | none=>σ.g,new++σ.d⟩
def AS.free(σ:AS)(new:List (Nat×UU)):Bool:=
 new.all fun x=>(σ.g.all fun y=> !y.2.XO.contains x.1) && σ.d.all fun y=> !Nat.beq y.1 x.1 && !y.2.XO.contains x.1
def hO(dst:Option Tmp)(n:Nat):Bool:=match dst with | some d=>Nat.blt d n | none=>true
theorem gJ(l r:List (Nat×UU))(i:Nat):aW (l++r) i=(aW l i).or (aW r i):=by
 induction l with
 |nil=>simp[aW]
 |cons x l h=>
  obtain⟨j,u⟩:=x;simp only[dg,aW];cases Nat.beq j i<;>simp[h]
theorem mM{l:List (Nat×UU)}{i:Nat}{en:UU}(h:aW l i=some en):(i,en)∈l:=by
 induction l with
 |nil=>simp[aW] at h
 |cons x l u=>
  obtain⟨j,z⟩:=x;simp only[aW] at h;cases hb:Nat.beq j i with
  |true=>rw[hb] at h;simp at h;subst h;have:=o5 hb;subst this;exact X5
  |false=>rw[hb] at h;exact X4 _ (u h)
theorem Lj{l:List (Nat×Slot)}{i:Nat}{s:Slot}(h:lk l i=some s):(i,s)∈l:=by
 induction l with
 |nil=>simp[lk] at h
 |cons x l u=>
  obtain⟨j,z⟩:=x;simp only[lk] at h;cases hb:Nat.beq j i with
  |true=>rw[hb] at h;simp at h;subst h;have:=o5 hb;subst this;exact X5
  |false=>rw[hb] at h;exact X4 _ (u h)
theorem kL{σ:AS}{new:List (Nat×UU)}(h:σ.free new=true){i:Nat}{en:UU}(hi:aW new i=some en):
  (∀t s,lk σ.g t=some s->i∉s.XO)/\aW σ.d i=none/\∀j e,aW σ.d j=some e->i∉e.XO:=by
 have u:=ZR.1 h _ (mM hi);simp only[B9,ZR] at u;obtain⟨u,A⟩:=u;refine⟨fun t s B z=>?_,?_,fun j e C z=>?_⟩
 ·have:=u _ (Lj B);simp at this;exact this z
 ·cases hd:aW σ.d i with
  |none=>rfl
  |some e=>
   have:=(A _ (mM hd)).1;simp at this
 ·have:=(A _ (mM C)).2;simp at this;exact this z
theorem rC{w w':World}(h:Below w.heap.size w w'){S S':Nat->Prop}(hs:∀k,k<w.heap.size->S' k->S k):Ext S S' w w':=
 ⟨h.size,fun k u z=>⟨h.block k u,fun A=>z (hs k u A)⟩⟩
theorem Core.put{F:WK}{d new:List (Nat×UU)}{ρ ρ':Nat->LV}{w w':World}{σ:AS}(hσ:σ.d=d)(hc:Core F d ρ w)(hf:σ.free new=true)(hρ:∀i,aW new i=none->ρ' i=ρ i)
  (hb:Below w.heap.size w w') (hn:kq ρ' (Un (Un F.S0 ρ d) ρ' new) w w' new):
  Core F (new++d) ρ' w'/\(∀k,Un F.S0 ρ' (new++d) k↔Un (Un F.S0 ρ d) ρ' new k)/\Ext (Un F.S0 ρ d) (Un F.S0 ρ' (new++d)) w w':=by
 subst hσ
 have D:∀i u,aW σ.d i=some u->ρ' i=ρ i:=fun i u h=>hρ i (by
  cases hx:aW new i with
  |none=>rfl
  |some e=>rw[(kL hf hx).2.1] at h;cases h)
 have K:∀k,Un F.S0 ρ' (new++σ.d) k↔Un (Un F.S0 ρ σ.d) ρ' new k:=by
  intro k;constructor
  ·rintro (h |⟨i,u,z,A⟩)
   ·exact .inl (.inl h)
   ·rw[gJ] at z;cases hx:aW new i with
    |some e=>exact .inr ⟨i,e,hx,A⟩
    |none=>rw[hx] at z;simp at z;exact .inl (.inr ⟨i,u,z,by rw[<-D i u z];exact A⟩)
  ·rintro ((h |⟨i,u,z,A⟩) |⟨i,u,z,A⟩)
   ·exact .inl h
   ·refine .inr ⟨i,u,?_,by rw[D i u z];exact A⟩;rw[gJ];cases hx:aW new i with
    |some e=>rw[(kL hf hx).2.1] at z;cases z
    |none=>simpa using z
   ·exact .inr ⟨i,u,by rw[gJ,z];rfl,A⟩
 have N:Ext (Un F.S0 ρ σ.d) (Un F.S0 ρ' (new++σ.d)) w w':=by
  refine rC hb fun k L h=>?_;rcases (K k).1 h with h |⟨i,u,z,A⟩
  ·exact h
  ·have:=(hn.fresh i u k z A).1;omega
 have P:Ext (Un (Un F.S0 ρ σ.d) ρ' new) (Un F.S0 ρ' (new++σ.d)) w' w':=⟨XZ _,fun k _ h=>⟨rfl,fun hc=>h ((K k).1 hc)⟩⟩;refine⟨⟨hc.low,ai hc.size hb.size,fun k L Q=>(hb.block k (O6 L hc.size)).trans (hc.frame k L Q),hb.os.trans hc.os,hb.tape.trans hc.tape,hb.output.trans hc.output,?_,?_,?_,?_⟩,K,N⟩
 ·intro i u h;rw[gJ] at h;cases hx:aW new i with
  |some e=>
   rw[hx] at h;simp at h;subst h;exact UU.UR (hn.own i e hx) P (fun _ _=>rfl) (fun _ _=>rfl)
  |none=>
   rw[hx] at h;simp at h;rw[D i u h];refine UU.UR (hc.own i u h) N (fun j B=>congrArg LV.v (hρ j ?_)) (fun b C=>hb.block b (hc.fresh i u b h C).2);cases hy:aW new j with
   |none=>rfl
   |some e=>exact absurd B ((kL hf hy).2.2 i u h)
 ·intro i u b h C;rw[gJ] at h;cases hx:aW new i with
  |some e=>
   obtain⟨z,A⟩:=hn.fresh i e b hx C;exact⟨.inl (ai hc.size z),A⟩
  |none=>
   rw[hx] at h;simp at h;rw[D i u h] at C;obtain⟨z,A⟩:=hc.fresh i u b h C;exact⟨z,O6 A hb.size⟩
 ·intro i j u I b E B H G;rw[gJ] at E B;cases hx:aW new i with
  |some e=>
   cases hy:aW new j with
   |some M=>exact hn.inj i j e M b hx hy H G
   |none=>
    rw[hy] at B;simp at B;rw[D j I B] at G;have z:=(hn.fresh i e b hx H).1;have A:=(hc.fresh j I b B G).2;omega
  |none=>
   rw[hx] at E;simp at E;rw[D i u E] at H;cases hy:aW new j with
   |some M=>
    have z:=(hn.fresh j M b hy G).1;have A:=(hc.fresh i u b E H).2;omega
   |none=>
    rw[hy] at B;simp at B;rw[D j I B] at G;exact hc.inj i j u I b E B H G
 ·intro i u b h C O;rw[gJ] at h;cases hx:aW new i with
  |some e=>
   have z:=(hn.fresh i e b hx C).1;have A:=hc.low b O;have R:=hc.size;omega
  |none=>
   rw[hx] at h;simp at h;rw[D i u h] at C;exact hc.apart i u b h C O
theorem kM(a:Act)(dst:Option Tmp)(v:Value):(a.put dst v).tmps.size=a.tmps.size:=by
 cases dst<;>simp[Act.put]
theorem kN(a:Act)(d:Tmp)(v:Value)(t:Tmp)(h:d<a.tmps.size):(a.put (some d) v).tmps.getD t undef=if d=t then v else a.tmps.getD t undef:=by
 simp only[Act.put,my,aDh];split
 ·simp_all
 ·rfl
theorem St.put{F:WK}{σ:AS}{dst:Option Tmp}{s:Slot}{new:List (Nat×UU)}{ρ:Nat->LV}{a:Act}{w w':World}{v:Value}
  (hc:Core F σ.d ρ w) (hs:∀t s,lk σ.g t=some s->s.ok ρ (Un F.S0 ρ σ.d) w (a.tmps.getD t undef)) (hz:a.tmps.size=F.N) (hd:a.defers=F.df)
  (hf:σ.free new=true) (ZC:hO dst F.N=true) (hr:WU ρ (Un F.S0 ρ σ.d) w s new v w'):St F (σ.put dst s new) (a.put dst v) w':=by
 obtain⟨ρ',B,E,G,H⟩:=hr;obtain⟨I,K,L⟩:=hc.put rfl hf B E H;refine⟨⟨ρ',I,?_⟩,by rw[kM,hz],by cases dst<;>exact hd⟩;have z:∀t s,lk σ.g t=some s->s.ok ρ' (Un F.S0 ρ' (new++σ.d)) w' (a.tmps.getD t undef):=fun t s u=>
  Slot.UR s _ (hs t s u) L (fun j D=>congrArg LV.v (B j (by
   cases hy:aW new j with
   |none=>rfl
   |some e=>exact absurd D ((kL hf hy).1 t s u))))
 intro t A u;cases dst with
 |none=>exact z t A u
 |some d=>
  simp only[AS.put,lk] at u;have C:d<a.tmps.size:=by rw[hz];exact p8 ZC
  rw[kN a d v t C];cases hb:Nat.beq d t with
  |true=>
   have:=o5 hb;rw[hb] at u;simp at u;subst u;rw[VX this];exact Slot.UR s v G ⟨XZ _,fun k _ h=>⟨rfl,fun hc=>h ((K k).1 hc)⟩⟩ (fun _ _=>rfl)
  |false=>
   have:d≠t:=fun e=>by subst e;simp at hb
   rw[hb] at u;rw[VN this];exact z t A u
theorem Qw(a:Act)(t:Tmp):a.eval (.tmp t)=a.tmps.getD t undef:=rfl
theorem cI{F:WK}{σ:AS}{ρ:Nat->LV}{a:Act}{w:World}(hc:Core F σ.d ρ w)
  (hs:∀t s,lk σ.g t=some s->s.ok ρ (Un F.S0 ρ σ.d) w (a.tmps.getD t undef)) (xs:Array Operand):j6 σ xs ρ (Un F.S0 ρ σ.d) a w:=by
 refine⟨fun k A=>?_,fun x _ s h=>?_,fun x _ s h i G z B=>⟨hc.own i z B,fun b C=>⟨.inr ⟨i,z,B,C⟩,(hc.fresh i z b B C).2⟩⟩⟩
 ·rcases A with A |⟨i,z,D,E⟩
  ·exact O6 (hc.low k A) hc.size
  ·exact(hc.fresh i z k D E).2
 cases x with
 |tmp t=>exact hs t s h
 |const u=>exact(Li h ρ _ w).1
 |global g=>cases h
 |func f=>cases h
def GK(ops:Array Oper)(g:List (Nat×Slot))(o:Oper)(b:Bool):Prop:=
 match o.guard with
 |none=>b=true
 |some (j,want)=>(∃t x,(ops[j]?).bind (·.dst)=some t/\lk g t=some (.v Wr.bool x)/\(x==want)=b)\/(b=false/\∃t,(ops[j]?).bind (·.dst)=some t/\lk g t=some .top)
theorem GK.none{ops:Array Oper}{g:List (Nat×Slot)}{o:Oper}(h:o.guard= .none):GK ops g o true:=by unfold GK;rw[h]
theorem GK.some{ops:Array Oper}{g:List (Nat×Slot)}{o:Oper}{j:Nat}{want:Bool}(t:Tmp)(x:Bool)(b:Bool)(h:o.guard= .some (j,want))(ht:(ops[j]?).bind (·.dst)= .some t)
  (hx:lk g t= .some (.v Wr.bool x)) (hb:(x==want)=b):GK ops g o b:=by unfold GK;rw[h];exact .inl ⟨t,x,ht,hx,hb⟩
theorem Ih{ops:Array Oper}{g:List (Nat×Slot)}{o:Oper}{j:Nat}{want:Bool}(t:Tmp)(h:o.guard= .some (j,want))(ht:(ops[j]?).bind (·.dst)= .some t)
  (hx:lk g t= .some .top):GK ops g o false:=by unfold GK;rw[h];exact .inr ⟨rfl,t,ht,hx⟩
theorem zG{ops:Array Oper}{g:List (Nat×Slot)}{o:Oper}{b:Bool}(h:GK ops g o b){ρ S w}{a:Act}
  (hs:∀t s,(∃j want,o.guard=Option.some (j,want)/\(ops[j]?).bind (·.dst)=Option.some t)->lk g t=Option.some s->s.ok ρ S w (a.tmps.getD t undef)):
  Region.wanted o (yielded ops a.tmps)=b:=by
 unfold GK at h;unfold Region.wanted;split at h
 ·rename_i u;rw[u];exact h.symm
 ·rename_i j want u;rcases h with⟨t,x,A,B,C⟩|⟨rfl,t,A,B⟩
  ·have:=hs t _ ⟨j,want,u,A⟩ B;simp only[Slot.ok] at this;have z:=zF.1 this;rw[u];simp only[yielded,A,cM];have:a.tmps[t]? =Option.some (.bool x):=by
    rw[my] at z;cases hq:a.tmps[t]? with
    |none=>rw[hq] at z;simp[undef] at z
    |some y=>rw[hq] at z;simpa using z
   rw[this];simp only;rw[<-C];cases x<;>cases want<;>rfl
  ·have:=hs t _ ⟨j,want,u,A⟩ B;simp only[Slot.ok] at this;rw[u];simp only[yielded,A,cM];rw[my] at this;cases hq:a.tmps[t]? with
   |none=>rfl
   |some y=>rw[hq] at this;simp at this;subst this;rfl
def J(F:WK)(ops:Array Oper)(os:List Oper)(σ σ':AS):Prop:=
 ∀Q rest a w,St F σ a w->(∀a' w',St F σ' a' w'->wpListIn F.fe 0 F.P ops Q rest a' w')->wpListIn F.fe 0 F.P ops Q (os++rest) a w
theorem Al{F:WK}{ops:Array Oper}{Q:Exit->Act->World->Prop}{a:Act}{w:World}{rest:List Oper}{o:Oper}{K:Value->World->Prop}
  (hw:Region.wanted o (yielded ops a.tmps)=true) (h:UX F.P o a w K) (k:∀v w',K v w'->wpListIn F.fe 0 F.P ops Q rest (a.put o.dst v) w'):wpListIn F.fe 0 F.P ops Q (o::rest) a w:=by
 unfold wpListIn;rw[VX hw];exact h.wpIn k
theorem Tg{F:WK}{ops:Array Oper}{Q:Exit->Act->World->Prop}{a:Act}{w:World}{rest:List Oper}{o:Oper}
  (hw:Region.wanted o (yielded ops a.tmps)=false) (k:wpListIn F.fe 0 F.P ops Q rest (a.put o.dst undef) w):wpListIn F.fe 0 F.P ops Q (o::rest) a w:=by
 unfold wpListIn;rw[VN (by rw[hw];decide)];exact⟨fun _ _=>trivial,k⟩
section
variable {F:WK}{ops:Array Oper}{os:List Oper}{o:Oper}{σ σ' dh:AS}{s:Slot}{new:List (Nat×UU)}
theorem J.nil:J F ops [] σ σ:=fun _ _ _ _ h k=>k _ _ h
theorem J.cons(g:GK ops σ.g o true)(h:JO F o σ s new)(hf:σ.free new=true)(hd:hO o.dst F.N=true)(k:J F ops os (σ.put o.dst s new) σ'):J F ops (o::os) σ σ':=by
 intro Q A a w B C;obtain⟨⟨ρ,z,u⟩,G,H⟩:=B;refine Al (zG g (fun t x _ D=>u t _ D)) (h ρ _ a w (cI z u _)) fun v I E=>?_;exact k Q A _ _ (St.put z u G H hf hd E) C
theorem Yy{ρ:Nat->LV}{S:Nat->Prop}{w:World}:WU ρ S w .top [] undef w:=
 ⟨ρ,fun _ _=>rfl,Below.refl _ _,by simp[Slot.ok],⟨fun _ _ h=>by simp[aW] at h,fun _ _ _ h=>by simp[aW] at h,fun _ _ _ _ _ h=>by simp[aW] at h⟩⟩
theorem J.left(g:GK ops σ.g o false)(hd:hO o.dst F.N=true)(k:J F ops os (σ.put o.dst .top []) σ'):J F ops (o::os) σ σ':=by
 intro Q u a w z A;obtain⟨⟨ρ,C,h⟩,D,E⟩:=z;refine Tg (zG g (fun t x _ B=>h t _ B)) ?_;exact k Q u _ _ (St.put C h D E rfl hd Yy) A
def JM(F:WK)(o:Oper)(σ σ':AS):Prop:=∀a w,St F σ a w->UX F.P o a w fun v h=>St F σ' (a.put o.dst v) h
theorem Yz(g:GK ops σ.g o true)(h:JM F o σ σ')(k:J F ops os σ' dh):J F ops (o::os) σ dh:=by
 intro Q A a w u B;have z:=u;obtain⟨⟨ρ,H,E⟩,I,K⟩:=u;refine Al (zG g (fun t x _ C=>E t _ C)) (h a w z) fun v G D=>?_;exact k Q A _ _ D B
def Sub(F:WK)(σ σ':AS):Prop:=∀a w,St F σ a w->St F σ' a w
theorem J.sub(h:Sub F σ σ')(k:J F ops os σ' dh):J F ops os σ dh:=fun Q u a w z A=>k Q u a w (h a w z) A
end
def run(Fe:Fence)(P:Program)(Q:Exit->Act->World->Prop):List Code->Act->World->Prop
 | [],a,w=>Q .normal a w
 |c::cs,a,w=>c.wpIn Fe 0 P (Exit.then (run Fe P Q cs) Q) a w
def W(F:WK)(cs:List Code)(σ:AS)(Q:Exit->Act->World->Prop):Prop:=∀a w,St F σ a w->run F.fe F.P Q cs a w
section
variable {F:WK}{cs:List Code}{σ σ':AS}{Q:Exit->Act->World->Prop}
theorem aG{x y:Code}(h:W F (x::y::cs) σ Q):W F (.seq x y::cs) σ Q:=by
 intro a w u;refine wpIn_seq (wpIn_mono (h a w u) ?_);intro e a w z;cases e<;>exact z
theorem eG{id:Nat}{ops:List Oper}(h:J F ops.toArray ops σ σ')(k:W F cs σ' Q):W F (.region id ops.toArray false::cs) σ Q:=by
 intro a w u;refine wpIn_region_lit ?_;have:=h (Exit.then (run F.fe F.P Q cs) Q) [] a w u (fun z A B=>wpListIn_nil (k z A B));simpa using this
theorem Ff{c:Tmp}{x y:Code}{b:Bool}(hb:lk σ.g c=some (.v Wr.bool b))(ht:b=true->W F (x::cs) σ Q)(hf:b=false->W F (y::cs) σ Q):W F (.cond (.tmp c) x y::cs) σ Q:=by
 intro a w u;obtain⟨ρ,B,A⟩:=u.core;have:=A c _ hb;simp only[Slot.ok] at this;have z:=zF.1 this;exact wpIn_cond_split (c:= .tmp c) (by rw[Qw];exact z) (fun h=>ht h a w u) (fun h=>hf h a w u)
theorem aF(h:W F cs σ Q):W F (.skip::cs) σ Q:=fun a w u=>wpIn_skip (h a w u)
theorem wB(h:Sub F σ σ')(k:W F cs σ' Q):W F cs σ Q:=fun a w u=>k a w (h a w u)
def XQ(F:WK)(σ:AS)(Q:Exit->Act->World->Prop)(e:Exit):Prop:=∀a w,St F σ a w->Q e a w
theorem aH(h:XQ F σ Q .ret):W F (.ret::cs) σ Q:=fun a w u=>wpIn_ret (h a w u)
theorem dA{id:Nat}(h:XQ F σ Q (.exit id)):W F (.exit id::cs) σ Q:=fun a w u=>wpIn_exit (h a w u)
theorem Za(h:XQ F σ Q .normal):W F [] σ Q:=h
theorem bT{id:Nat}{c:Code}(h:W F [c] σ (Exit.inBlock id (Exit.then (run F.fe F.P Q cs) Q))):W F (.block id c::cs) σ Q:=by
 intro a w u;refine wpIn_block (wpIn_mono (h a w u) ?_);intro e a w z;cases e<;>exact z
theorem bN{id:Nat}(h:W F cs σ Q):W F [] σ (Exit.inBlock id (Exit.then (run F.fe F.P Q cs) Q)):=fun a w u=>h a w u
theorem KF{id id':Nat}{N:Act->World->Prop}(YD:Nat.beq id' id=false)(h:XQ F σ Q (.exit id')):XQ F σ (Exit.inBlock id (Exit.then N Q)) (.exit id'):=by
 intro a w z;have u:id'≠id:=fun e=>by subst e;simp at YD
 simp only[Exit.inBlock,VN u];exact h a w z
theorem eV{id:Nat}{N:Act->World->Prop}(h:XQ F σ Q .ret):XQ F σ (Exit.inBlock id (Exit.then N Q)) .ret:=h
end
inductive Step (α β:Type) where
 |next (x:α)
 |done (b:β)
def loop{α β:Type}(step:α->Option (Step α β)):Nat->α->Option β
 | 0,_=>none
 |n+1,x=>match step x with
  |none=>none
  |some (.next y)=>loop step n y
  |some (.done b)=>some b
def LQ{α β:Type}(F:WK)(σs:α->AS)(b:β)(Q:Exit->Act->World->Prop):Step α β->Exit->Act->World->Prop
 | .next y,.normal,a,w=>St F (σs y) a w
 | .next _,_,_,_=>False
 | .done _,.normal,_,_=>False
 | .done h,e,a,w=>h=b->Q e a w
section
variable {F:WK}{cs:List Code}{σ:AS}{Q:Exit->Act->World->Prop}{α β:Type}
theorem OG{c:Code}{σs:α->AS}{step:α->Option (Step α β)}{n:Nat}{x:α}{b:β}(hm:loop step n x=some b)(h0:Sub F σ (σs x))
  (h:∀y r,step y=some r->W F [c] (σs y) (LQ F σs b Q r)):W F (.loop c::cs) σ Q:=by
 intro a w E;have E:=h0 a w E;let I:Act->World->Prop:=fun a w=>∃m y,Sw.loop step m y=some b/\St F (σs y) a w
 let B:Act->World->Nat->Prop:=fun a w m=>∃y,Sw.loop step m y=some b/\St F (σs y) a w
 have G:∀a w,I a w->∃m,B a w m/\∀k,B a w k->m<=k:=by
  rintro a w ⟨m,y,u,C⟩;have:∃m,B a w m:=⟨m,y,u,C⟩;clear u C;obtain⟨m,hm⟩:=this
  induction m using Nat.strongRecOn with
  |_ m R=>
   by_cases H:∃k,k<m/\B a w k
   ·obtain⟨k,u,C⟩:=H;exact R k u C
   ·exact⟨m,hm,fun k N=>Nat.le_of_not_lt fun O=>H ⟨k,O,N⟩⟩
 classical
 let μ:Act->World->Nat:=fun a w=>if A:I a w then Classical.choose (G a w A) else 0
 have K:∀a w (A:I a w),B a w (μ a w)/\∀k,B a w k->μ a w<=k:=by
  intro a w A;have:=aD2 (G a w A);simp only[μ,dif_pos A];exact this
 refine wpIn_loop (Q:=Exit.then (run F.fe F.P Q cs) Q) I μ ⟨n,x,hm,E⟩ fun a w A=>?_;obtain⟨⟨y,u,C⟩,S⟩:=K a w A;cases hn:μ a w with
 |zero=>rw[hn] at u;simp[Sw.loop] at u
 |succ m=>
  rw[hn] at u;simp only[Sw.loop] at u;cases XI:step y with
  |none=>rw[XI] at u;cases u
  |some r=>
   have:=h y r XI a w C;refine wpIn_mono this ?_;intro e M w' D;cases r with
   |next z=>
    rw[XI] at u;cases e<;>simp only[LQ,Exit.then,run] at D ⊢;have L:I M w':=⟨m,z,u,D⟩;refine⟨L,?_⟩;have:=(K M w' L).2 m ⟨z,u,D⟩;omega
   |done T=>
    rw[XI] at u;simp at u;cases e<;>simp only[LQ,Exit.then,run] at D ⊢<;>exact D u
end
end Go.Sw
namespace Go.Sw
open Go Go.RowKit
def Wr.sl{α:Type}(e:Wr α):Wr (List α) where
 n:=1
 agg:=false
 ok xs S w cs:=∃a u,cs=[.slice a xs.length u]/\(xs.length<=u/\xs.length<=140737488355328)/\(xs=[]\/∃b z A,a=some ⟨b,z,none⟩/\b<w.heap.size/\¬S b/\VD w b z A/\e.YG xs S w A)
 len h:=by obtain⟨a,u,h,_⟩:=h;rw[h];rfl
 one _:=rfl
 cell h c hc:=by obtain⟨a,u,h,_⟩:=h;rw[h] at hc;simp at hc;subst hc;rfl
 mono h k:=by
  obtain⟨a,u,h,E,B⟩:=h;refine⟨a,u,h,E,?_⟩;rcases B with B |⟨b,z,A,F,C,D,G,H⟩
  ·exact .inl B
  ·exact .inr ⟨b,z,A,F,O6 C k.size,(k.E2 b C D).2,G.mono C D k,Wr.VB H k⟩
def Wr.arr{α:Type}(m:Nat)(e:Wr α):Wr (List α) where
 n:=m*e.n
 agg:=true
 ok xs S w cs:=xs.length=m/\e.YG xs S w cs
 len h:=by rw[cP h.2,h.1]
 one h:=by cases h
 cell h:=rB h.2
 mono h k:=⟨h.1,Wr.VB h.2 k⟩
def Wr.pr{α β:Type}(a:Wr α)(b:Wr β):Wr (α×β) where
 n:=a.n+b.n
 agg:=true
 ok x S w cs:=∃c d,cs=c++d/\a.ok x.1 S w c/\b.ok x.2 S w d
 len h:=by obtain⟨c,d,h,u,z⟩:=h;rw[h,pT,a.len u,b.len z]
 one h:=by cases h
 cell h y hy:=by
  obtain⟨c,d,h,u,z⟩:=h;rw[h] at hy;rcases J6.1 hy with hy | hy
  ·exact a.cell u y hy
  ·exact b.cell z y hy
 mono h k:=by obtain⟨c,d,h,u,z⟩:=h;exact⟨c,d,h,a.mono u k,b.mono z k⟩
def Wr.F6{α:Type}(a:Wr α):Wr α where
 n:=a.n
 agg:=true
 ok:=a.ok
 len:=a.len
 one h:=by cases h
 cell:=a.cell
 mono:=a.mono
def Wr.err(T:TypeId):Wr (Option Int) where
 n:=1
 agg:=false
 ok x _ _ cs:=match x with | none=>cs=[.nilIface] | some n=>cs=[.iface T (.int .i64 n)]/\Co .i64 n
 len {x _ _ _} h:=by cases x<;>simp only at h<;>first | (rw[h];rfl) | (rw[h.1];rfl)
 one _:=rfl
 cell {x _ _ _} h c hc:=by
  cases x<;>simp only at h<;>first | (rw[h] at hc;simp at hc;subst hc;rfl) | (rw[h.1] at hc;simp at hc;subst hc;rfl)
 mono h _:=h
theorem rZ{α:Type}{e:Wr α}{xs:List α}{S w u}:(Wr.sl e).val xs S w u↔∃a cap,u= .slice a xs.length cap/\(xs.length<=cap/\xs.length<=140737488355328)/\(xs=[]\/∃b off ds,a=some ⟨b,off,none⟩/\b<w.heap.size/\¬S b/\VD w b off ds/\e.YG xs S w ds):=by
 constructor
 ·rintro⟨B,⟨a,cap,z,A⟩,rfl⟩;rw[z];exact⟨a,cap,rfl,A⟩
 ·rintro⟨a,cap,rfl,h⟩;exact⟨_,⟨a,cap,rfl,h⟩,rfl⟩
theorem Am{T:TypeId}{S w u}:(Wr.err T).val none S w u↔u= .nilIface:=by
 constructor
 ·rintro⟨z,h,rfl⟩;simp only[Wr.err] at h;rw[h];rfl
 ·rintro rfl;exact⟨_,rfl,rfl⟩
theorem An{T:TypeId}{n:Int}{S w u}:(Wr.err T).val (some n) S w u↔u= .iface T (.int .i64 n)/\Co .i64 n:=by
 constructor
 ·rintro⟨z,h,rfl⟩;simp only[Wr.err] at h;rw[h.1];exact⟨rfl,h.2⟩
 ·rintro⟨rfl,h⟩;exact⟨_,⟨rfl,h⟩,rfl⟩
class XU {α:Type} (e:Wr α):Prop where
 flat:∀{x S S' w w' cs},e.ok x S w cs->e.ok x S' w' cs
instance (k:IntKind):XU (Wr.int k):=⟨fun h=>h⟩
instance:XU Wr.bool:=⟨fun h=>h⟩
instance:XU Wr.str:=⟨fun h=>h⟩
instance (T:TypeId):XU (Wr.err T):=⟨fun h=>h⟩
theorem XU.YG{α:Type}{e:Wr α}[XU e]{S S' w w'}:∀{xs:List α} {cs},e.YG xs S w cs->e.YG xs S' w' cs
 | [],_,h=>h
 |_::_,_,⟨c,d,u,z,A⟩=>⟨c,d,u,XU.flat z,XU.YG A⟩
instance {α:Type} (m:Nat) (e:Wr α) [XU e]:XU (Wr.arr m e):=⟨fun h=>⟨h.1,XU.YG h.2⟩⟩
instance {α β:Type} (a:Wr α) (b:Wr β) [XU a] [XU b]:XU (Wr.pr a b):=⟨fun h=>let ⟨c,d,h,h1,h2⟩:=h;⟨c,d,h,XU.flat h1,XU.flat h2⟩⟩
instance {α:Type} (a:Wr α) [i:XU a]:XU (Wr.F6 a):=⟨fun h=>i.flat (e:=a) h⟩
def VG(P:Program)(f:FuncId)(args:List Slot)(res:Slot)(new:List (Nat×UU)):Prop:=
 ∀S w vs ρ,(∀k,S k->k<w.heap.size)->aX ρ S w args vs->Calls P f vs.toArray w fun e h=>∃v,e= .returned v/\WU ρ S w res new v h
def enum:Nat->List Slot->List (Nat×Slot)
 |_,[]=>[]
 |i,s::r=>(i,s)::enum (i+1) r
theorem Lk{ρ S w}:∀(l:List Slot) (vs:List Value) (i:Nat),aX ρ S w l vs->∀t s,lk (enum i l) t=some s->i<=t/\∃u,vs[t - i]? =some u/\s.ok ρ S w u
 | [],_,_,_,t,s,h=>by simp[enum,lk] at h
 |x::r,vs,i,z,t,s,h=>by
  simp only[aX] at z;obtain⟨u,A,rfl,B,C⟩:=z;simp only[enum,lk] at h;cases hb:Nat.beq i t with
  |true=>
   rw[hb] at h;simp at h;subst h;have:=o5 hb;subst this;exact⟨XZ _,u,by simp,B⟩
  |false=>
   rw[hb] at h;obtain⟨G,D,E,F⟩:=Lk r A (i+1) C t s h;refine⟨by omega,D,?_,F⟩;have:t - i=(t - (i+1))+1:=by omega
   rw[this];simpa using E
theorem Gg{ρ S w}:∀{l:List Slot} {vs:List Value},aX ρ S w l vs->vs.length=l.length
 | [],vs,h=>by simp only[aX] at h;simp[h]
 |x::r,vs,h=>by simp only[aX] at h;obtain⟨u,A,rfl,_,z⟩:=h;simp[Gg z]
theorem qQ{P:Program}{fn:Func}{tmps:Array Value}{R R':Ending->World->Prop}(hR:∀e w,R e w->R' e w):∀{ds:List Deferred} {u:FrameMode} {w:World},LeavesInM Fence.wide 0 P fn tmps R ds u w->LeavesInM Fence.wide 0 P fn tmps R' ds u w
 | [],.returning,w,h=>by obtain⟨v,z,A⟩:=h;exact⟨v,z,hR _ _ A⟩
 | [],.panicking chain,w,h=>hR _ _ h
 | [],.run,w,h=>h
 |d::ds,u,w,h=>by
  obtain⟨E,h⟩:=h;refine⟨E,?_⟩;rcases h with⟨r,D,z,A,C⟩|⟨z,F,G,f,H,A,C,I,K⟩
  ·exact .inl ⟨r,D,z,A,qQ hR C⟩
  ·refine .inr ⟨z,F,G,f,H,A,C,I,?_⟩;refine CallsDIn.mono K ?_;intro e L D B;cases e
   ·exact qQ hR B
   ·exact qQ hR B
   ·exact hR _ _ B
theorem Ll{P:Program}{fn:Func}{R R':Ending->World->Prop}(hR:∀e w,R e w->R' e w){e:Exit}{a:Act}{w:World}(h:bodyPostM Fence.wide 0 P fn R e a w):bodyPostM Fence.wide 0 P fn R' e a w:=by
 cases e
 case goto | exit=>exact h.elim
 case normal | ret=>exact qQ hR h
 case panic=>exact qQ hR h
 case outgrown=>exact hR _ _ h
def Of(F:WK)(fn:Func)(res:Slot)(new:List (Nat×UU)):Exit->Act->World->Prop:=
 bodyPostM Fence.wide 0 F.P fn fun e h=>∃v,e= .returned v/\∀ρ,WU ρ F.S0 F.w0 res new v h
def tf(P:Program)(fn:Func)(tmps:Array Value)(R:Value->World->Prop):List Deferred->World->Prop
 | [],w=>∃v,(results fn tmps).run P w= .ok v w/\R v w
 |d::ds,w=>∃r w',d.target= .collected r/\(Instr.takeDeferred r).run P w= .ok [] w'/\tf P fn tmps R ds w'
theorem tf.leaves{P:Program}{fn:Func}{tmps:Array Value}{R:Value->World->Prop}{R':Ending->World->Prop}(hR:∀v w,R v w->R' (.returned v) w):∀{ds:List Deferred} {w:World},tf P fn tmps R ds w->LeavesInM Fence.wide 0 P fn tmps R' ds .returning w
 | [],w,h=>by obtain⟨v,u,z⟩:=h;exact⟨v,u,hR _ _ z⟩
 |d::ds,w,h=>by
  obtain⟨r,A,u,z,B⟩:=h;exact⟨by simp,.inl ⟨r,A,u,z,B.leaves hR⟩⟩
structure R3 (F F':WK):Prop where
 P:F'.P=F.P
 S:∀k,F.S0 k->F'.S0 k
 size:F.w0.heap.size<=F'.w0.heap.size
 low:∀k,F.S0 k->k<F.w0.heap.size
 frame:∀k,k<F.w0.heap.size->¬F.R k->F'.w0.heap[k]? =F.w0.heap[k]?/\¬F'.R k
 os:F'.w0.os=F.w0.os
 tape:F'.w0.tape=F.w0.tape
 output:F'.w0.output=F.w0.output
 fresh:∀k,F'.R k->F.w0.heap.size<=k\/F.R k
 df:∀d∈F'.df,∃r,d.target= .collected r/\F'.S0 r/\¬F'.R r/\F.w0.heap.size<=r/\F'.w0.heap[r]? =some (.deferred (some []))
 nd:F'.df.Pairwise fun d d'=>d.target≠d'.target
theorem R3.refl{F:WK}(hl:∀k,F.S0 k->k<F.w0.heap.size)(hd:F.df=[]):R3 F F:=
 ⟨rfl,fun _ h=>h,XZ _,hl,fun _ _ h=>⟨rfl,h⟩,rfl,rfl,rfl,fun _ h=> .inr h,by rw[hd];simp,by rw[hd];exact .nil⟩
theorem VG.of{P:Program}{f:FuncId}{fn:Func}{c:Code}{N:Nat}{args:List Slot}{res:Slot}{new:List (Nat×UU)}
  (hf:P.funcs[f]? =some fn) (hb:fn.body=some c) (hN:fn.ntmps=N) (hle:Nat.ble args.length N=true)
  (h:∀S w,R3 ⟨P,N,S,w,fun _=>False,none,[]⟩ ⟨P,N,S,w,fun _=>False,none,[]⟩->W ⟨P,N,S,w,fun _=>False,none,[]⟩ [c] ⟨enum 0 args,[]⟩ (Of ⟨P,N,S,w,fun _=>False,none,[]⟩ fn res new)):VG P f args res new:=by
 intro S w vs ρ ZW hv;refine(callsIn_wide (n:=0)).1 (callsIn_of_wp_marks hf hb trivial ?_);have K:=Gg hv;have hle:=p8 hle;have E:St ⟨P,N,S,w,fun _=>False,none,[]⟩ ⟨enum 0 args,[]⟩ { tmps:=vs.toArray++Array.replicate (fn.ntmps - vs.toArray.size) undef,defers:=[] } w:= ?_
 ·have z:c.wpIn Fence.wide 0 P (Exit.then (run Fence.wide P (Of ⟨P,N,S,w,fun _=>False,none,[]⟩ fn res new) []) (Of ⟨P,N,S,w,fun _=>False,none,[]⟩ fn res new)) { tmps:=vs.toArray++Array.replicate (fn.ntmps - vs.toArray.size) undef,defers:=[] } w:=h S w (.refl ZW rfl) _ w E;refine wpIn_mono z ?_;have F:∀e a w',Of ⟨P,N,S,w,fun _=>False,none,[]⟩ fn res new e a w'->bodyPostM Fence.wide 0 P fn (fun e w'=>∃v,e= .returned v/\WU ρ S w res new v w') e a w':=fun e a w' C=>Ll (fun e w ⟨v,z,D⟩=>⟨v,z,D ρ⟩) C;intro e a w' C;cases e<;>exact F _ _ _ C
 ·refine⟨⟨ρ,⟨ZW,XZ _,fun _ _ _=>rfl,rfl,rfl,rfl,fun i B h=>by simp[aW] at h,fun i B b h=>by simp[aW] at h,fun i j B L b h=>by simp[aW] at h,fun i B b h=>by simp[aW] at h⟩,fun t s H=>?_⟩,?_,rfl⟩
  ·obtain⟨_,u,z,D⟩:=Lk args vs 0 hv t s H;have G:t<vs.length:=by
    rcases J0 t vs.length with h | h
    ·exact h
    ·simp[V4 h] at z
   have:(vs.toArray++Array.replicate (fn.ntmps - vs.toArray.size) undef).getD t undef=u:=by
    rw[my,aDl (by simpa using G)];simp at z ⊢;rw[z];rfl
   rw[this];exact Slot.UR s u D ⟨XZ _,fun k _ I=>⟨rfl,fun A=>I (by rcases A with A |⟨i,B,A,_⟩;exact A;simp[aW] at A)⟩⟩ (fun _ _=>rfl)
  ·simp only[aEh,aD7,aEi];omega
def wC(a:Act):ResultVar->Sem Value
 | .tmp t=>pure (a.tmps.getD t undef)
 | .cell c t=>do loadVar t (<-asAddr (a.tmps.getD c undef))
def RV(F:WK)(σ:AS)(rv:ResultVar)(s:Slot):Prop:=
 ∀(ρ:Nat->LV) (a:Act) (w:World),Core F σ.d ρ w->(∀t s,lk σ.g t=some s->s.ok ρ (Un F.S0 ρ σ.d) w (a.tmps.getD t undef))->
  ∃v,(wC a rv).run F.P w= .ok v w/\s.ok ρ (Un F.S0 ρ σ.d) w v
theorem RV.tmp{F:WK}{σ:AS}{t:Tmp}{s:Slot}(h:lk σ.g t=some s):RV F σ (.tmp t) s:=fun _ a _ _ u=>⟨a.tmps.getD t undef,rfl,u t s h⟩
inductive w5:List (Nat×UU)->List (Nat×UU)->Prop
 |nil {d}:w5 [] d
 |cons {d i en r}:aW d i=some en->w5 r d->w5 ((i,en)::r) d
theorem w5.spec{n d:List (Nat×UU)}(h:w5 n d):∀i en,aW n i=some en->aW d i=some en:=by
 induction h with
 |nil=>intro i en h;simp[aW] at h
 |cons u _ z=>
  rename_i j A r _;intro i en h;simp only[aW] at h;cases hb:Nat.beq j i with
  |true=>have:=o5 hb;subst this;rw[hb] at h;simp at h;subst h;exact u
  |false=>rw[hb] at h;exact z i en h
def kO(res:Slot)(new:List (Nat×UU)):Bool:=res.XO.all (fun i=>(aW new i).isSome) && new.all fun x=>x.2.XO.all fun i=>(aW new i).isSome
theorem WU.l8{F:WK}{σ:AS}{ρ:Nat->LV}{w:World}{v:Value}{res:Slot}{new:List (Nat×UU)}(hR:∀k,¬F.R k)(hc:Core F σ.d ρ w)(hr:res.ok ρ (Un F.S0 ρ σ.d) w v)
  (hn:w5 new σ.d) (XP:kO res new=true) (ρ0:Nat->LV):WU ρ0 F.S0 F.w0 res new v w:=by
 have A:=hn.spec;simp only[kO,B9,ZR] at XP;let ρ':Nat->LV:=fun i=>if (aW new i).isSome then ρ i else ρ0 i
 have z:∀i,(aW new i).isSome=true->ρ' i=ρ i:=fun i h=>VX h
 have H:Ext (Un F.S0 ρ σ.d) (Un F.S0 ρ' new) w w:=⟨XZ _,fun k _ E=>⟨rfl,fun h=>E (by
  rcases h with h |⟨i,u,D,G⟩
  ·exact .inl h
  ·exact .inr ⟨i,u,A i u D,by rw[<-z i (by rw[D];rfl)];exact G⟩)⟩⟩
 refine⟨ρ',fun i h=>by simp[ρ',h],⟨hc.os,hc.tape,hc.output,hc.size,fun k E=>hc.frame k E (hR k)⟩,Slot.UR res v hr H (fun i B=>congrArg LV.v (z i (XP.1 i B))),⟨fun i u h=>?_,fun i u b h I=>?_,fun i j u K b B C L M=>?_⟩⟩
 ·rw[z i (by rw[h];rfl)];exact UU.UR (hc.own i u (A i u h)) H (fun j C=>congrArg LV.v (z j (XP.2 _ (mM h) j C))) (fun _ _=>rfl)
 ·rw[z i (by rw[h];rfl)] at I;obtain⟨D,G⟩:=hc.fresh i u b (A i u h) I;exact⟨D.resolve_right (hR b),G⟩
 ·rw[z i (by rw[B];rfl)] at L;rw[z j (by rw[C];rfl)] at M;exact hc.inj i j u K b (A i u B) (A j K C) L M
theorem wZ(fn:Func)(a:Act):results fn a.tmps=(do
  let vs<-fn.results.mapM (wC a)
  pure (if h:vs.size=1 then vs[0] else .tuple vs)):=rfl
theorem Zb{P:Program}{S0:Nat->Prop}{B:Nat}:∀(ds:List Deferred) (w:World),(∀d∈ds,∃r,d.target= .collected r/\S0 r/\B<=r/\w.heap[r]? =some (.deferred (some [])))->ds.Pairwise (fun d d'=>d.target≠d'.target)->
  ∃w',w'.heap.size=w.heap.size/\(∀k,¬(S0 k/\B<=k)->w'.heap[k]? =w.heap[k]?)/\w'.os=w.os/\w'.tape=w.tape/\w'.output=w.output/\
   ∀fn tmps R,(∃v,(results fn tmps).run P w'= .ok v w'/\R v w')->tf P fn tmps R ds w
 | [],w,_,_=>⟨w,rfl,fun _ _=>rfl,rfl,rfl,rfl,fun _ _ _ h=>h⟩
 |d::ds,w,h,z=>by
  obtain⟨r,D,H,I,K⟩:=h d X5;rw[List.pairwise_cons] at z;have F:∀e∈ds,∃u,e.target= .collected u/\S0 u/\B<=u/\(w.putObj r (.deferred none)).heap[u]? =some (.deferred (some [])):=by
   intro e A;obtain⟨u,E,L,M,N⟩:=h e (X4 _ A);refine⟨u,E,L,M,?_⟩;rw[World.putObj_heap_other];exact N;rintro rfl;exact z.1 e A (D.trans E.symm)
  obtain⟨w',O,Q,S,T,U,V⟩:=Zb ds (w.putObj r (.deferred none)) F z.2;refine⟨w',by rw[O,World.putObj_size],fun k C=>?_,S,T,U,fun fn tmps R G=>⟨r,_,D,run_takeDeferred K,V fn tmps R G⟩⟩;rw[Q k C,World.putObj_heap_other];rintro rfl;exact C ⟨H,I⟩
theorem Core.leave{F F':WK}{d:List (Nat×UU)}{ρ:Nat->LV}{w:World}(hF:R3 F F')(hc:Core F' d ρ w):∃w',Core F d ρ w'/\Ext (Un F'.S0 ρ d) (Un F.S0 ρ d) w w'/\
  ∀fn tmps R,(∃v,(results fn tmps).run F.P w'= .ok v w'/\R v w')->tf F.P fn tmps R F'.df w:=by
 have K:∀x∈F'.df,∃r,x.target= .collected r/\F'.S0 r/\F.w0.heap.size<=r/\w.heap[r]? =some (.deferred (some [])):=by
  intro x D;obtain⟨r,z,C,Q,T,I⟩:=hF.df x D;exact⟨r,z,C,T,by rw[hc.frame r (yq.1 I).1 Q];exact I⟩
 obtain⟨w',E,G,U,V,X,a6⟩:=Zb (P:=F.P) F'.df w K hF.nd;have L:∀k,Un F.S0 ρ d k->Un F'.S0 ρ d k:=fun k h=>h.imp (hF.S k) (fun h=>h);have H:Ext (Un F'.S0 ρ d) (Un F.S0 ρ d) w w':=⟨by rw[E];exact XZ _,fun k _ B=>⟨G k fun h=>B (.inl h.1),fun h=>B (L k h)⟩⟩;have M:∀i u b,aW d i=some u->qO (ρ i) b->w'.heap[b]? =w.heap[b]? :=fun i u b h A=>G b fun D=>hc.apart i u b h A D.1
 refine⟨w',⟨hF.low,by rw[E];exact ai hF.size hc.size,fun k B N=>?_,U.trans (hc.os.trans hF.os),V.trans (hc.tape.trans hF.tape),X.trans (hc.output.trans hF.output),fun i u h=>UU.UR (hc.own i u h) H (fun _ _=>rfl) (fun b A=>M i u b h A),
  fun i u b h A=>?_,hc.inj,fun i u b h A O=>hc.apart i u b h A (hF.S b O)⟩,H,a6⟩
 ·obtain⟨z,C⟩:=hF.frame k B N;rw[G k (fun h=>by omega),hc.frame k (O6 B hF.size) C,z]
 ·obtain⟨z,C⟩:=hc.fresh i u b h A;refine⟨?_,by rw[E];exact C⟩;rcases z with z | z
  ·exact .inl (ai hF.size z)
  ·exact hF.fresh b z
theorem yE{F F':WK}{σ:AS}{fn:Func}{R:Ending->World->Prop}(hF:R3 F F')
  (h:∀(ρ:Nat->LV) (a:Act) (w:World),Core F σ.d ρ w->(∀t s,lk σ.g t=some s->s.ok ρ (Un F.S0 ρ σ.d) w (a.tmps.getD t undef))->∃v,(results fn a.tmps).run F.P w= .ok v w/\R (.returned v) w):
  XQ F' σ (bodyPostM Fence.wide 0 F.P fn R) .ret:=by
 intro a w z;obtain⟨⟨ρ,B,C⟩,K,D⟩:=z;obtain⟨E,G,H,I⟩:=B.leave hF;have u:=h ρ a E G fun t s A=>Slot.UR s _ (C t s A) H (fun _ _=>rfl);show LeavesInM Fence.wide 0 F.P fn a.tmps R a.defers .returning w;rw[D];exact(I fn a.tmps (fun v w=>R (.returned v) w) u).leaves fun _ _ h=>h
theorem Th{P:Program}{fn:Func}{a:Act}{w:World}{rv:ResultVar}{v:Value}(r7:fn.results= #[rv])(h1:(wC a rv).run P w= .ok v w):(results fn a.tmps).run P w= .ok v w:=by
 rw[wZ,r7];simp only[aDw,aCw,aEn,Sem.run_bind,Sem.run_map,h1,Result.andThen_ok,Sem.run_pure];simp
theorem Ti{P:Program}{fn:Func}{a:Act}{w:World}{rv ft:ResultVar}{v v':Value}(r7:fn.results= #[rv,ft])(h1:(wC a rv).run P w= .ok v w)(q8:(wC a ft).run P w= .ok v' w):(results fn a.tmps).run P w= .ok (.tuple #[v,v']) w:=by
 rw[wZ,r7];simp only[aDw,aCw,aEn,Sem.run_bind,Sem.run_map,h1,q8,Result.andThen_ok,Sem.run_pure];simp
theorem Tj{P:Program}{fn:Func}{a:Act}{w:World}{rv ft zk:ResultVar}{v v' v2:Value}(r7:fn.results= #[rv,ft,zk])(h1:(wC a rv).run P w= .ok v w)(q8:(wC a ft).run P w= .ok v' w)(il:(wC a zk).run P w= .ok v2 w):(results fn a.tmps).run P w= .ok (.tuple #[v,v',v2]) w:=by
 rw[wZ,r7];simp only[aDw,aCw,aEn,Sem.run_bind,Sem.run_map,h1,q8,il,Result.andThen_ok,Sem.run_pure];simp
theorem QS{ρ:Nat->LV}{S:Nat->Prop}{w:World}{s s':Slot}{v v':Value}(h2:s.ok ρ S w v)(n7:s'.ok ρ S w v'):(Slot.VO [s,s']).ok ρ S w (.tuple #[v,v']):=by
 simp only[Slot.ok];exact⟨[v,v'],rfl,by simp only[aX];exact⟨v,_,rfl,h2,v',_,rfl,n7,rfl⟩⟩
theorem QT{ρ:Nat->LV}{S:Nat->Prop}{w:World}{s s' s2:Slot}{v v' v2:Value}(h2:s.ok ρ S w v)(n7:s'.ok ρ S w v')(h22:s2.ok ρ S w v2):(Slot.VO [s,s',s2]).ok ρ S w (.tuple #[v,v',v2]):=by
 simp only[Slot.ok];exact⟨[v,v',v2],rfl,by simp only[aX];exact⟨v,_,rfl,h2,v',_,rfl,n7,v2,_,rfl,h22,rfl⟩⟩
section
variable {F F':WK}{σ:AS}{fn:Func}{rv ft zk:ResultVar}{res s s' s2:Slot}{new:List (Nat×UU)}
theorem aY(hF:R3 F F')(hR:∀k,¬F.R k)(r7:fn.results= #[rv])(h:RV F σ rv res)(hn:w5 new σ.d)(XP:kO res new=true):XQ F' σ (Of F fn res new) .ret:=
 yE hF fun ρ a w u z=>by
  obtain⟨v,A,B⟩:=h ρ a w u z;exact⟨v,Th r7 A,v,rfl,WU.l8 hR u B hn XP⟩
theorem bS(hF:R3 F F')(hR:∀k,¬F.R k)(r7:fn.results= #[rv,ft])(h:RV F σ rv s)(h':RV F σ ft s')(hn:w5 new σ.d)(XP:kO (.VO [s,s']) new=true):XQ F' σ (Of F fn (.VO [s,s']) new) .ret:=
 yE hF fun ρ a w u z=>by
  obtain⟨v,A,B⟩:=h ρ a w u z;obtain⟨E,C,D⟩:=h' ρ a w u z;exact⟨_,Ti r7 A C,_,rfl,WU.l8 hR u (QS B D) hn XP⟩
theorem wG(hF:R3 F F')(hR:∀k,¬F.R k)(r7:fn.results= #[rv,ft,zk])(h:RV F σ rv s)(h':RV F σ ft s')(h'':RV F σ zk s2)(hn:w5 new σ.d)(XP:kO (.VO [s,s',s2]) new=true):XQ F' σ (Of F fn (.VO [s,s',s2]) new) .ret:=
 yE hF fun ρ a w u z=>by
  obtain⟨v,A,B⟩:=h ρ a w u z;obtain⟨H,C,D⟩:=h' ρ a w u z;obtain⟨I,E,G⟩:=h'' ρ a w u z;exact⟨_,Tj r7 A C E,_,rfl,WU.l8 hR u (QT B D G) hn XP⟩
end
end Go.Sw
namespace Go.Sw
open Go Go.RowKit
theorem WU.same{ρ:Nat->LV}{S:Nat->Prop}{w:World}{s:Slot}{v:Value}(h:s.ok ρ S w v):WU ρ S w s [] v w:=
 ⟨ρ,fun _ _=>rfl,Below.refl _ _,Slot.UR s v h ⟨XZ _,fun k _ u=>⟨rfl,fun h=>u (by
  rcases h with h |⟨i,A,z,_⟩
  ·exact h
  ·simp[aW] at z)⟩⟩ (fun _ _=>rfl),⟨fun _ _ h=>by simp[aW] at h,fun _ _ _ h=>by simp[aW] at h,fun _ _ _ _ _ h=>by simp[aW] at h⟩⟩
theorem yF(k:IntKind)(n:Int):Co k (k.wrap n):=by
 unfold Co;cases k<;>simp only[IntKind.min,IntKind.max,IntKind.wrap,IntKind.signed,IntKind.bits]<;>simp<;>(try split)<;>omega
section
variable {F:WK}{σ:AS}{s:Slot}{d:Option Tmp}{ty:TypeId}{p:String}{af:Array Edge}{gd:Option (Nat×Bool)}{x y c:Operand}
theorem aD(hx:cZ σ.g x=some s):JO F ⟨d,.move x,ty,p,af,gd⟩ σ s []:=
 fun _ _ _ w K=>UX.value (w':=w) (by simp[execOp]) (WU.same (K.slot x (by simp[Op.operands]) s hx))
theorem bP(hx:cZ σ.g x=some s):JO F ⟨d,.assign x,ty,p,af,gd⟩ σ s []:=
 fun _ _ _ w K=>UX.value (w':=w) (by simp[execOp]) (WU.same (K.slot x (by simp[Op.operands]) s hx))
theorem Tk{α:Type}(e:Wr α)(ρ:Nat->LV)(S:Nat->Prop)(w:World):(Slot.v (Wr.sl e) []).ok ρ S w (.slice none 0 0):=by
 simp only[Slot.ok];exact rZ.2 ⟨none,0,rfl,by simp,.inl rfl⟩
theorem kP{α:Type}(e:Wr α):JO F ⟨d,.assign (.const (.slice none 0 0)),ty,p,af,gd⟩ σ (.v (Wr.sl e) []) []:=
 fun ρ S _ w _=>UX.value (w':=w) (by simp[execOp,Act.eval]) (WU.same (Tk e ρ S w))
theorem Pc(T:TypeId)(ρ:Nat->LV)(S:Nat->Prop)(w:World):(Slot.v (Wr.err T) none).ok ρ S w .nilIface:=by
 simp only[Slot.ok];exact Am.2 rfl
theorem yV(T:TypeId):JO F ⟨d,.assign (.const .nilIface),ty,p,af,gd⟩ σ (.v (Wr.err T) none) []:=
 fun ρ S _ w _=>UX.value (w':=w) (by simp[execOp,Act.eval]) (WU.same (Pc T ρ S w))
theorem Lm{α:Type}{w:World}{S:Nat->Prop}(T:TypeId)(e:Wr α)(i:Nat)(ρ:Nat->LV):WU ρ S w (.ref i) [(i,.arr T e [])] (.slice none 0 0) w:=by
 refine⟨fun j=>if j=i then .of (.slice none 0 0) else ρ j,fun j A=>?_,Below.refl _ _,by simp only[Slot.ok,ZH];exact⟨.inl ⟨_,_,_,rfl⟩,rfl⟩,⟨fun j z h=>?_,fun j z b h u=>?_,fun j k z B b h C u _=>?_⟩⟩
 ·have:j≠i:=fun e=>by subst e;simp[aW] at A
  simp[this]
 ·simp only[aW] at h;cases u:Nat.beq i j with
  |true=>have:=o5 u;subst this;rw[u] at h;simp at h;subst h;exact .inl ⟨rfl,by simp[LV.of]⟩
  |false=>rw[u] at h;simp at h
 ·simp only[aW] at h;cases hc:Nat.beq i j with
  |true=>have:=o5 hc;subst this;simp[pC,YC] at u
  |false=>rw[hc] at h;simp at h
 ·simp only[aW] at h;cases hc:Nat.beq i j with
  |true=>have:=o5 hc;subst this;simp[pC,YC] at u
  |false=>rw[hc] at h;simp at h
theorem aP{α:Type}(i:Nat)(T:TypeId)(e:Wr α):JO F ⟨d,.assign (.const (.slice none 0 0)),ty,p,af,gd⟩ σ (.ref i) [(i,.arr T e [])]:=
 fun ρ _ _ w _=>UX.value (w':=w) (by simp[execOp,Act.eval]) (Lm T e i ρ)
theorem Wv{σ:AS}{xs:Array Operand}{ρ S a w}(K:j6 σ xs ρ S a w){x:Operand}(hm:x∈xs){b:Bool}(hx:cZ σ.g x=some (.v Wr.bool b)):a.eval x= .bool b:=by
 have:=K.slot x hm _ hx;simp only[Slot.ok] at this;exact zF.1 this
theorem fQ{σ:AS}{xs:Array Operand}{ρ S a w}(K:j6 σ xs ρ S a w){x:Operand}(hm:x∈xs){k:IntKind}{n:Int}(hx:cZ σ.g x=some (.v (Wr.int k) n)):a.eval x= .int k n/\Co k n:=by
 have:=K.slot x hm _ hx;simp only[Slot.ok] at this;exact vC.1 this
theorem pD(b:Bool)(ρ:Nat->LV)(S:Nat->Prop)(w:World):(Slot.v Wr.bool b).ok ρ S w (.bool b):=by simp only[Slot.ok];exact zF.2 rfl
theorem sY{k:IntKind}{n:Int}(h:Co k n)(ρ:Nat->LV)(S:Nat->Prop)(w:World):(Slot.v (Wr.int k) n).ok ρ S w (.int k n):=by simp only[Slot.ok];exact vC.2 ⟨rfl,h⟩
theorem EN(hc:cZ σ.g c=some (.v Wr.bool true))(hx:cZ σ.g x=some s):JO F ⟨d,.pick c x y,ty,p,af,gd⟩ σ s []:=
 fun _ _ _ w K=>UX.value (w':=w) (by simp[execOp,Wv K (x:=c) (by simp[Op.operands]) hc,asBool]) (WU.same (K.slot x (by simp[Op.operands]) s hx))
theorem EO(hc:cZ σ.g c=some (.v Wr.bool false))(hy:cZ σ.g y=some s):JO F ⟨d,.pick c x y,ty,p,af,gd⟩ σ s []:=
 fun _ _ _ w K=>UX.value (w':=w) (by simp[execOp,Wv K (x:=c) (by simp[Op.operands]) hc,asBool]) (WU.same (K.slot y (by simp[Op.operands]) s hy))
theorem Ao{o:BinOp}{T T':TypeId}{v:Value}{k k':IntKind}{m n:Int}{ρ:Nat->LV}{S:Nat->Prop}
  {a:Act} {w:World} {s:Slot} (h1:a.eval x= .int k m) (h2:a.eval y= .int k' n) (h:(Go.binOp o T (.int k m) (.int k' n)).run F.P w= .ok v w) (hs:s.ok ρ S w v):
  UX F.P ⟨d,.binOp o T x y T',ty,p,af,gd⟩ a w (WU ρ S w s []):=by
 refine UX.value (w':=w) (v:=v) ?_ (WU.same hs);simp only[execOp,h1,h2];have:(eqGuard o T x y (.int k m) (.int k' n)).run F.P w= .ok () w:=by
  unfold eqGuard;by_cases u:(!(match o with | .eql | .neq=>true | _=>false))=true
  ·cases o<;>simp at u<;>simp
  ·cases o<;>simp at u<;>simp
 simp[this,h]
def ar(o:BinOp)(k:IntKind)(m n:Int):Int:=
 match o with
 | .add=>k.wrap (m+n)
 | .sub=>k.wrap (m - n)
 | .mul=>k.wrap (m*n)
 | .quo=>k.wrap (m.tdiv n)
 | .rem=>m.tmod n
 | .and=>k.wrap (BitVec.ofInt k.bits m &&& BitVec.ofInt k.bits n).toNat
 | .or=>k.wrap (BitVec.ofInt k.bits m ||| BitVec.ofInt k.bits n).toNat
 | .xor=>k.wrap (BitVec.ofInt k.bits m ^^^ BitVec.ofInt k.bits n).toNat
 | .andNot=>k.wrap (BitVec.ofInt k.bits m &&& ~~~ BitVec.ofInt k.bits n).toNat
 |_=>0
def cm(o:BinOp)(m n:Int):Bool:=
 match o with
 | .eql=>m==n
 | .neq=>m != n
 | .lss=>decide (m<n)
 | .leq=>decide (m<=n)
 | .gtr=>decide (m>n)
 | .geq=>decide (m>=n)
 |_=>false
def OH:BinOp->Bool
 | .add | .sub | .mul | .and | .or | .xor | .andNot=>true
 |_=>false
def QU:BinOp->Bool
 | .eql | .neq | .lss | .leq | .gtr | .geq=>true
 |_=>false
theorem cT{o:BinOp}{T T':TypeId}{k:IntKind}{m n:Int}(ho:OH o=true)(hx:cZ σ.g x=some (.v (Wr.int k) m))(hy:cZ σ.g y=some (.v (Wr.int k) n)):
  JO F ⟨d,.binOp o T x y T',ty,p,af,gd⟩ σ (.v (Wr.int k) (ar o k m n)) []:=by
 intro ρ S a w K;refine Ao (fQ K (by simp[Op.operands]) hx).1 (fQ K (by simp[Op.operands]) hy).1 (v:= .int k (ar o k m n)) ?_ (sY ?_ ρ S w)
 ·cases o<;>simp[OH] at ho<;>simp[binOp,Op.intArith,Op.intBits,ar]
 ·cases o<;>simp[OH] at ho<;>exact yF _ _
theorem KG{k:IntKind}{m n:Int}(h:Co k m):Co k (m.tmod n):=by
 unfold Co at*;have u:(m.tmod n).natAbs<=m.natAbs:=by rw[Int.natAbs_tmod];exact Nat.mod_le _ _
 have z:0<=m->0<=m.tmod n:=fun h=>aEu _ h;have A:m<=0->m.tmod n<=0:=fun h=>by
  have:=aEu n (a:= -m) (by omega);rw[Int.neg_tmod] at this;omega
 have B:k.min<=0:=by cases k<;>decide
 have C:0<=k.max:=by cases k<;>decide
 omega
theorem kB{o:BinOp}{T T':TypeId}{k:IntKind}{m n:Int}(ho:o= .quo\/o= .rem)(hn:n≠0)(hx:cZ σ.g x=some (.v (Wr.int k) m))(hy:cZ σ.g y=some (.v (Wr.int k) n)):
  JO F ⟨d,.binOp o T x y T',ty,p,af,gd⟩ σ (.v (Wr.int k) (ar o k m n)) []:=by
 intro ρ S a w K;refine Ao (fQ K (by simp[Op.operands]) hx).1 (fQ K (by simp[Op.operands]) hy).1 (v:= .int k (ar o k m n)) ?_ (sY ?_ ρ S w)
 ·rcases ho with rfl | rfl<;>simp[binOp,Op.intDiv,hn,ar]
 ·rcases ho with rfl | rfl
  ·exact yF _ _
  ·exact KG (fQ K (by simp[Op.operands]) hx).2
theorem nB{o:BinOp}{T T':TypeId}{k:IntKind}{m n:Int}(ho:QU o=true)(hx:cZ σ.g x=some (.v (Wr.int k) m))(hy:cZ σ.g y=some (.v (Wr.int k) n)):
  JO F ⟨d,.binOp o T x y T',ty,p,af,gd⟩ σ (.v Wr.bool (cm o m n)) []:=by
 intro ρ S a w K;refine Ao (fQ K (by simp[Op.operands]) hx).1 (fQ K (by simp[Op.operands]) hy).1 (v:= .bool (cm o m n)) ?_ (pD _ ρ S w);cases o<;>simp[QU] at ho<;>simp[binOp,Op.intCmp,cm]
def sh(o:BinOp)(k:IntKind)(m n:Int):Int:=
 match o with
 | .shl=>k.wrap (m*2 ^ min n.toNat k.bits)
 | .shr=>m.fdiv (2 ^ min n.toNat k.bits)
 |_=>0
theorem OI{k:IntKind}{m:Int}(h:Co k m)(j:Nat):Co k (m.fdiv (2 ^ j)):=by
 unfold Co at*;have u:(0:Int)<2 ^ j:=aEw (by decide);have z:k.min<=0:=by cases k<;>decide
 have A:0<=k.max:=by cases k<;>decide
 rw[ug _ (aEb u)];constructor
 ·refine(Int.le_ediv_iff_mul_le u).2 ?_;have:k.min*2 ^ j<=k.min*1:=Int.mul_le_mul_of_nonpos_left z (by omega);omega
 ·refine Int.le_trans (Int.ediv_le_ediv u h.2) ?_;exact Int.ediv_le_self _ A
theorem eY{o:BinOp}{T T':TypeId}{k k':IntKind}{m n:Int}(ho:o= .shl\/o= .shr)(hn:0<=n)(hx:cZ σ.g x=some (.v (Wr.int k) m))(hy:cZ σ.g y=some (.v (Wr.int k') n)):
  JO F ⟨d,.binOp o T x y T',ty,p,af,gd⟩ σ (.v (Wr.int k) (sh o k m n)) []:=by
 intro ρ S a w K;refine Ao (fQ K (by simp[Op.operands]) hx).1 (fQ K (by simp[Op.operands]) hy).1 (v:= .int k (sh o k m n)) ?_ (sY ?_ ρ S w)
 ·have:¬n<0:=by omega
  rcases ho with rfl | rfl<;>simp[binOp,Op.shift,this,sh]
 ·rcases ho with rfl | rfl
  ·exact yF _ _
  ·exact OI (fQ K (by simp[Op.operands]) hx).2 _
theorem Ii{T:TypeId}{b:Bool}(hx:cZ σ.g x=some (.v Wr.bool b)):JO F ⟨d,.unOp .not T x,ty,p,af,gd⟩ σ (.v Wr.bool (!b)) []:=
 fun ρ S _ w K=>UX.value (w':=w) (v:= .bool (!b)) (by simp[execOp,Wv K (x:=x) (by simp[Op.operands]) hx,Op.unary]) (WU.same (pD _ ρ S w))
theorem Ww{T:TypeId}{k:IntKind}{n:Int}(hx:cZ σ.g x=some (.v (Wr.int k) n)):JO F ⟨d,.unOp .neg T x,ty,p,af,gd⟩ σ (.v (Wr.int k) (k.wrap (0 - n))) []:=
 fun ρ S _ w K=>UX.value (w':=w) (v:= .int k (k.wrap (0 - n))) (by simp[execOp,(fQ K (x:=x) (by simp[Op.operands]) hx).1,Op.unary,Op.intArith]) (WU.same (sY (yF _ _) ρ S w))
def BN(k:IntKind)(n:Int):Int:=k.wrap (BitVec.ofInt k.bits (if k.signed then -1 else k.max) ^^^ BitVec.ofInt k.bits n).toNat
theorem OJ{T:TypeId}{k:IntKind}{n:Int}(hx:cZ σ.g x=some (.v (Wr.int k) n)):JO F ⟨d,.unOp .xor T x,ty,p,af,gd⟩ σ (.v (Wr.int k) (BN k n)) []:=
 fun ρ S _ w K=>UX.value (w':=w) (v:= .int k (BN k n)) (by simp[execOp,(fQ K (x:=x) (by simp[Op.operands]) hx).1,Op.unary,Op.intBits,BN]) (WU.same (sY (yF _ _) ρ S w))
theorem Zc{A B:TypeId}{da:TypeDesc}{k k':IntKind}{n:Int}(ha:∀w,(underlying A).run F.P w= .ok da w)(hb:∀w,(underlying B).run F.P w= .ok (.int k') w)(hx:cZ σ.g x=some (.v (Wr.int k) n)):
  JO F ⟨d,.convert A B x,ty,p,af,gd⟩ σ (.v (Wr.int k') (k'.wrap n)) []:=
 fun ρ S _ w K=>UX.value (w':=w) (v:= .int k' (k'.wrap n)) (by simp[execOp,(fQ K (x:=x) (by simp[Op.operands]) hx).1,convert,ha,hb,Conv.intToInt]) (WU.same (sY (yF _ _) ρ S w))
theorem EP{T:TypeId}{n:Int}(ha:∀w,(underlying T).run F.P w= .ok (.int .i64) w)(hx:cZ σ.g x=some (.v (Wr.int .i64) n)):
  JO F ⟨d,.makeInterface T x,ty,p,af,gd⟩ σ (.v (Wr.err T) (some n)) []:=by
 intro ρ S a w K;obtain⟨h,u⟩:=fQ K (x:=x) (by simp[Op.operands]) hx;exact UX.value (w':=w) (v:= .iface T (.int .i64 n)) (by simp[execOp,h,Instr.makeInterface,ha]) (WU.same (by simp only[Slot.ok];exact An.2 ⟨rfl,u⟩))
theorem bW{n:Nat}{l:List Slot}(hx:cZ σ.g x=some (.VO l))(hs:l[n]? =some s):JO F ⟨d,.extract x n,ty,p,af,gd⟩ σ s []:=by
 intro ρ S a w K;have h:=K.slot x (by simp[Op.operands]) _ hx;simp only[Slot.ok] at h;obtain⟨vs,E,G⟩:=h;have D:∀(l:List Slot) (vs:List Value) (n:Nat),aX ρ S w l vs->l[n]? =some s->∃v,vs[n]? =some v/\s.ok ρ S w v:=by
  intro l
  induction l with
  |nil=>intro vs n _ h;simp at h
  |cons t l I=>
   intro vs n C z;simp only[aX] at C;obtain⟨u,H,rfl,A,B⟩:=C;cases n with
   |zero=>simp at z;subst z;exact⟨u,rfl,A⟩
   |succ n=>exact I H n B (by simpa using z)
 obtain⟨v,A,B⟩:=D l vs n G hs;exact UX.value (w':=w) (v:=v) (by simp[execOp,E,Instr.extract,A]) (WU.same B)
theorem NO{σ:AS}{xs:Array Operand}{ρ S a w}(K:j6 σ xs ρ S a w){x:Operand}(hm:x∈xs){T:TypeId}{o:Option Int}(hx:cZ σ.g x=some (.v (Wr.err T) o)):
  a.eval x=(match o with | none=> .nilIface | some n=> .iface T (.int .i64 n)):=by
 have:=K.slot x hm _ hx;simp only[Slot.ok] at this;cases o with
 |none=>exact Am.1 this
 |some n=>exact(An.1 this).1
theorem Tl(t:TypeId)(x y:Value):Op.equal t x y=Op.equalIn (9998+1+1) t x y:=rfl
theorem BO{P:Program}{a:Act}{w:World}{o:BinOp}{T T':TypeId}{u v:Value}{r b:Bool}(ho:(o= .eql/\b=r)\/(o= .neq/\b= !r))(hx:a.eval x=u)(hy:a.eval y=v)
  (hk:∀k m,u≠.int k m) (hs:∀s,u≠.string s) (hf:∀k m,u≠.float k m) (hc:∀k m n,u≠.complex k m n)
  (hg:(eqGuard o T x y u v).run P w= .ok () w) (he:(Op.equalIn (9998+1+1) T u v).run P w= .ok r w):
  (execOp a.eval ⟨d,.binOp o T x y T',ty,p,af,gd⟩).run P w= .ok (.value (.bool b)) w:=by
 have h:(Go.binOp o T u v).run P w= .ok (.bool b) w:=by
  rcases ho with⟨rfl,rfl⟩|⟨rfl,rfl⟩
  ·have:Go.binOp .eql T u v=(do pure (.bool (<-Op.equal T u v))):=by
    cases u<;>first | rfl | (exact absurd rfl (hk _ _)) | (exact absurd rfl (hs _)) | (exact absurd rfl (hf _ _)) | (exact absurd rfl (hc _ _ _))
   rw[this,Tl];simp[he]
  ·have:Go.binOp .neq T u v=(do pure (.bool (!(<-Op.equal T u v)))):=by
    cases u<;>first | rfl | (exact absurd rfl (hk _ _)) | (exact absurd rfl (hs _)) | (exact absurd rfl (hf _ _)) | (exact absurd rfl (hc _ _ _))
   rw[this,Tl];simp[he]
 simp only[execOp,hx,hy];simp[hg,h]
theorem Gh{P:Program}{w:World}{U T:TypeId}{ms:Array (String×TypeId)}(ha:∀w,(underlying U).run P w= .ok (.interface ms) w)(v:Value):(Op.equalIn (9998+1+1) U (.iface T v) .nilIface).run P w= .ok false w/\(Op.equalIn (9998+1+1) U .nilIface (.iface T v)).run P w= .ok false w/\(Op.equalIn (9998+1+1) U .nilIface .nilIface).run P w= .ok true w:=by
 refine⟨?_,?_,?_⟩<;>(rw[Op.equalIn];simp[ha])
theorem iM{T U U':TypeId}{o:Option Int}{ms:Array (String×TypeId)}(ha:∀w,(underlying U).run F.P w= .ok (.interface ms) w)(hx:cZ σ.g x=some (.v (Wr.err T) o)):
  JO F ⟨d,.binOp .eql U x (.const .nilIface) U',ty,p,af,gd⟩ σ (.v Wr.bool o.isNone) []:=by
 intro ρ S a w K;have h:=NO K (x:=x) (by simp[Op.operands]) hx;refine UX.value (w':=w) (v:= .bool o.isNone) (BO (r:=o.isNone) ?_ h rfl ?_ ?_ ?_ ?_ ?_ ?_) (WU.same (pD _ ρ S w))
 ·cases o<;>simp
 ·cases o<;>simp
 ·cases o<;>simp
 ·cases o<;>simp
 ·cases o<;>simp
 ·cases o<;>simp[eqGuard,Act.eval]
 ·cases o with
  |none=>exact(Gh (T:=T) ha .nilIface).2.2
  |some n=>exact(Gh ha _).1
theorem ER{T U U':TypeId}{o:Option Int}{ms:Array (String×TypeId)}(ha:∀w,(underlying U).run F.P w= .ok (.interface ms) w)(hx:cZ σ.g x=some (.v (Wr.err T) o)):
  JO F ⟨d,.binOp .neq U x (.const .nilIface) U',ty,p,af,gd⟩ σ (.v Wr.bool o.isSome) []:=by
 intro ρ S a w K;have h:=NO K (x:=x) (by simp[Op.operands]) hx;refine UX.value (w':=w) (v:= .bool o.isSome) (BO (r:=o.isNone) ?_ h rfl ?_ ?_ ?_ ?_ ?_ ?_) (WU.same (pD _ ρ S w))
 ·cases o<;>simp
 ·cases o<;>simp
 ·cases o<;>simp
 ·cases o<;>simp
 ·cases o<;>simp
 ·cases o<;>simp[eqGuard,Act.eval]
 ·cases o with
  |none=>exact(Gh (T:=T) ha .nilIface).2.2
  |some n=>exact(Gh ha _).1
end
end Go.Sw
namespace Go.Sw
open Go Go.RowKit
theorem VD.cell{w:World}{b off:Nat}{cs:List Value}(h:VD w b off cs):∀j v,cs[j]? =some v->w.cell? ((⟨b,off,none⟩:Addr).add j)=some v:=by
 obtain⟨c,T,D,B,C⟩:=h;intro j v A;have u:j<cs.length:=by
  rcases J0 j cs.length with h | h
  ·exact h
  ·simp[V4 h] at A
 have z:cs[j]=v:=by simpa[C3 u] using A
 have:=C j u;unfold Addr.add;split
 ·rename_i e;subst e;simp[World.cell?,B];simpa[z] using this
 ·simp[World.cell?,B,this,z]
theorem VD.sub{w:World}{b off:Nat}{a c d:List Value}(h:VD w b off (a++(c++d))):VD w b (off+a.length) c:=by
 obtain⟨r,T,z,A,B⟩:=h;refine⟨r,T,z,A,fun j u=>?_⟩;have:=B (a.length+j) (by simp;omega);rw[aDs,this];simp[aC6 u]
theorem VD.of_heap{w:World}{b:Nat}{cs:List Value}{T fr}(h:w.heap[b]? =some (.cells cs.toArray T fr)):VD w b 0 cs:=
 ⟨_,T,fr,h,fun j u=>by simp[C3 u]⟩
theorem VD.lt{w:World}{b off:Nat}{cs:List Value}(h:VD w b off cs):b<w.heap.size:=by
 obtain⟨r,T,z,u,A⟩:=h;rcases J0 b w.heap.size with h | h
 ·exact h
 ·simp[yo h] at u
theorem Fg{α:Type}{P:Program}{e:Wr α}{x:α}{S:Nat->Prop}{w w0:World}{b off:Nat}{cs:List Value}{U:TypeId}(h:VD w b off cs)(ho:e.ok x S w0 cs)
  (hA:∀w,(isAgg U).run P w= .ok e.agg w) (hS:∀w,(sizeOf U).run P w= .ok e.n w):(loadVar U ⟨b,off,none⟩).run P w= .ok (e.pk cs) w:=by
 unfold loadVar;simp only[Sem.run_bind,hA,Result.andThen_ok];have u:=e.len ho;cases ha:e.agg with
 |true=>
  simp only[ZH,Sem.run_bind,hS,Result.andThen_ok,Wr.pk,ha];rw[<-u,run_loadCells_list w _ cs h.cell];simp
 |false=>
  have z:=e.one ha;rw[z] at u;obtain⟨v,rfl⟩:=aCh.1 u;have:=h.cell 0 v rfl;simp[Addr.add] at this;simp[Wr.pk,ha,this]
def Slot.sz:Slot->Nat
 | .v e _=>e.n
 |_=>1
def Slot.ag:Slot->Bool
 | .v e _=>e.agg
 |_=>false
section
variable {ρ:Nat->LV}{S:Nat->Prop}{w:World}
theorem nL{s:Slot}{c:List Value}(h:s.YI ρ S w c):c.length=s.sz:=by
 cases s<;>simp only[Slot.YI] at h<;>simp only[Slot.sz]
 case v e x=>exact e.len h
 case ref=>rw[h.2];rfl
 case ptr=>rw[h.2];rfl
 case cq=>rw[h.2];rfl
 case el=>rw[h.2];rfl
 case n9=>rw[h.2];rfl
 case ki=>rw[h.2];rfl
 case sub=>obtain⟨_,u,z,_,_,h⟩:=h;rw[h];rfl
 case XA=>obtain⟨b,A,B,h,_⟩:=h;rw[h];rfl
 case YV=>obtain⟨vs,h,_⟩:=h;rw[h];rfl
 case top=>rw[h];rfl
theorem Zd{s:Slot}{c:List Value}(h:s.YI ρ S w c):s.ok ρ S w (if s.ag then .agg c.toArray else c.headD undef):=by
 cases s<;>simp only[Slot.YI] at h<;>simp only[Slot.ok,Slot.ag]
 case v e x=>exact⟨c,h,rfl⟩
 case ref=>rw[h.2];exact⟨h.1,rfl⟩
 case ptr=>rw[h.2];exact⟨h.1,rfl⟩
 case cq=>rw[h.2];exact⟨h.1,rfl⟩
 case el=>rw[h.2];exact⟨h.1,rfl⟩
 case n9=>rw[h.2];exact⟨h.1,rfl⟩
 case ki=>rw[h.2];exact⟨h.1,rfl⟩
 case sub=>obtain⟨z,A,B,C,D,E⟩:=h;rw[E];exact⟨z,A,B,C,D,rfl⟩
 case XA=>obtain⟨b,F,G,h,u⟩:=h;rw[h];exact⟨b,F,G,rfl,u⟩
 case YV=>obtain⟨vs,h,u⟩:=h;rw[h];exact⟨vs,rfl,u⟩
 case top=>rw[h];rfl
def Slot.plain:Slot->Bool
 | .agg _=>false
 | .VO _=>false
 | .top=>false
 |_=>true
theorem qR{s:Slot}{v:Value}(hp:s.plain=true)(h:s.ok ρ S w v):s.YI ρ S w v.cells.toList:=by
 cases s<;>simp only[Slot.plain,O5] at hp<;>simp only[Slot.ok] at h<;>simp only[Slot.YI]
 case v e x=>
  obtain⟨H,z,rfl⟩:=h;unfold Wr.pk;cases ha:e.agg with
  |true=>simpa[Value.cells] using z
  |false=>
   have B:=e.len z;rw[e.one ha] at B;obtain⟨u,rfl⟩:=aCh.1 B;have:=Qv (e.cell z u (by simp));simp[this,z]
 case ref i=>
  obtain⟨⟨a,l,c,z⟩|⟨a,z⟩,rfl⟩:=h
  ·exact⟨.inl ⟨a,l,c,z⟩,by simp[z,Value.cells]⟩
  ·exact⟨.inr ⟨a,z⟩,by simp[z,Value.cells]⟩
 case ptr i A=>obtain⟨⟨b,z⟩,rfl⟩:=h;exact⟨⟨b,z⟩,by simp[z,Cm,Value.cells]⟩
 case cq i A k n=>obtain⟨⟨b,z⟩,rfl⟩:=h;exact⟨⟨b,z⟩,by simp[z,Cm,Value.cells]⟩
 case el i k n A=>obtain⟨⟨b,o,l,c,z⟩,rfl⟩:=h;exact⟨⟨b,o,l,c,z⟩,by simp[z,Lh,Value.cells]⟩
 case n9 i A lo n cap=>obtain⟨⟨b,z⟩,rfl⟩:=h;exact⟨⟨b,z⟩,by simp[z,EK,Value.cells]⟩
 case ki i A n cap=>obtain⟨⟨b,o,l,c,z⟩,rfl⟩:=h;exact⟨⟨b,o,l,c,z⟩,by simp[z,EL,Value.cells]⟩
 case sub i A n=>obtain⟨⟨a,l,c,z⟩,C,D,E,F,rfl⟩:=h;exact⟨⟨a,l,c,z⟩,C,D,E,F,by rw[z];cases a<;>simp[Tf,Value.cells]⟩
 case XA e x=>obtain⟨b,A,G,rfl,z⟩:=h;exact⟨b,A,G,rfl,z⟩
 case YV g cap=>obtain⟨vs,rfl,z⟩:=h;exact⟨vs,rfl,z⟩
def nJ:List Slot->Nat->Option Slot
 | [],_=>none
 |s::r,off=>bif Nat.beq off 0 then some s else bif Nat.ble s.sz off then nJ r (off - s.sz) else none
def nU:List Slot->Nat->Slot->List Slot
 | [],_,_=>[]
 |s::r,off,h=>bif Nat.beq off 0 then h::r else s::nU r (off - s.sz) h
theorem uP:∀{l:List Slot} {off:Nat} {s:Slot} {cs:List Value},nJ l off=some s->aZ ρ S w l cs->
  ∃a c d,cs=a++(c++d)/\a.length=off/\s.YI ρ S w c/\∀s' c',s'.YI ρ S w c'->aZ ρ S w (nU l off s') (a++(c'++d))
 | [],_,_,_,h,_=>by simp[nJ] at h
 |t::r,off,s,cs,h,k=>by
  simp only[aZ] at k;obtain⟨c,d,rfl,z,B⟩:=k;simp only[nJ] at h;cases hb:Nat.beq off 0 with
  |true=>
   rw[hb] at h;simp at h;subst h;have:=o5 hb;subst this;exact⟨[],c,d,rfl,rfl,z,fun s' c' u=>by simp only[nU,X3];exact⟨c',d,rfl,u,B⟩⟩
  |false=>
   rw[hb] at h;simp only[pF] at h;cases hle:Nat.ble t.sz off with
   |false=>rw[hle] at h;simp at h
   |true=>
    rw[hle] at h;have I:=p8 hle;obtain⟨C,c',D,E,F,G,H⟩:=uP (l:=r) (by simpa using h) B;refine⟨c++C,c',D,by rw[E,u9],by rw[pT,nL z,F];omega,G,fun s' A u=>?_⟩;simp only[nU,hb,pF,aZ];exact⟨c,C++(A++D),by rw[u9],z,H s' A u⟩
def J2{α:Type}(l:List Slot)(e:Wr α)(x:α):Prop:=∀ρ S w cs,aZ ρ S w l cs↔e.ok x S w cs
theorem J2.one{α:Type}(e:Wr α)(x:α):J2 [.v e x] e x:=by
 intro ρ S w cs;simp only[aZ,Slot.YI];constructor
 ·rintro⟨c,d,rfl,h,rfl⟩;simpa using h
 ·intro h;exact⟨cs,[],by simp,h,rfl⟩
theorem xA{l l':List Slot}{ρ S w}:∀{cs},aZ ρ S w (l++l') cs↔∃c d,cs=c++d/\aZ ρ S w l c/\aZ ρ S w l' d:=by
 induction l with
 |nil=>
  intro cs;simp only[X3,aZ];constructor
  ·intro h;exact⟨[],cs,rfl,rfl,h⟩
  ·rintro⟨c,d,rfl,rfl,h⟩;simpa using h
 |cons t l D=>
  intro cs;simp only[dg,aZ,D];constructor
  ·rintro⟨c,d,rfl,z,u,C,rfl,A,B⟩;exact⟨c++u,C,by simp,⟨c,u,rfl,z,A⟩,B⟩
  ·rintro⟨_,d,rfl,⟨c,u,rfl,z,A⟩,B⟩;exact⟨c,u++d,by simp,z,u,d,rfl,A,B⟩
theorem J2.pr{α β:Type}{l l':List Slot}{a:Wr α}{b:Wr β}{x:α×β}(h:J2 l a x.1)(h':J2 l' b x.2):J2 (l++l') (Wr.pr a b) x:=by
 intro ρ S w cs;rw[xA];constructor
 ·rintro⟨c,d,rfl,u,z⟩;exact⟨c,d,rfl,(h ρ S w c).1 u,(h' ρ S w d).1 z⟩
 ·rintro⟨c,d,rfl,u,z⟩;exact⟨c,d,rfl,(h ρ S w c).2 u,(h' ρ S w d).2 z⟩
theorem J2.F6{α:Type}{l:List Slot}{a:Wr α}{x:α}(h:J2 l a x):J2 l (Wr.F6 a) x:=h
end
end Go.Sw
namespace Go.Sw
open Go Go.RowKit
theorem ES{ρ:Nat->LV}{S:Nat->Prop}{w w':World}{v:Value}{i:Nat}{en:UU}{s:Slot}(u:LV)(hb:Below w.heap.size w w')
  (p5:en.XO.all (fun j=> !Nat.beq j i)=true)
  (eg:∀b,qO u b->w.heap.size<=b/\b<w'.heap.size)
  (E3:∀S' ρ',(∀k,k<w.heap.size->S' k->S k)->mJ ρ ρ' en.XO->en.ok ρ' S' w' u)
  (hs:∀S' ρ',(∀k,k<w.heap.size->S' k->S k)->(ρ' i).v=u.v->(∀j,j≠i->ρ' j=ρ j)->s.ok ρ' S' w' v):WU ρ S w s [(i,en)] v w':=by
 let ρ':Nat->LV:=fun j=>if j=i then u else ρ j
 have B:ρ' i=u:=VX rfl;have C:∀j,j≠i->ρ' j=ρ j:=fun j h=>VN h;have A:∀j z,aW [(i,en)] j=some z->j=i/\z=en:=by
  intro j z h;simp only[aW] at h;cases hb:Nat.beq i j with
  |true=>have:=o5 hb;subst this;rw[hb] at h;simp at h;exact⟨rfl,h.symm⟩
  |false=>rw[hb] at h;simp at h
 have D:∀k,k<w.heap.size->Un S ρ' [(i,en)] k->S k:=by
  rintro k M (h |⟨j,z,L,F⟩)
  ·exact h
  ·obtain⟨rfl,rfl⟩:=A j z L;rw[B] at F;have:=(eg k F).1;omega
 refine⟨ρ',fun j h=>C j (fun e=>by subst e;simp[aW] at h),hb,hs _ _ D (congrArg LV.v B) C,⟨fun j z h=>?_,fun j z b h E=>?_,fun j k z G b h H _ _=>?_⟩⟩
 ·obtain⟨rfl,rfl⟩:=A j z h;rw[B];refine E3 _ _ D fun I K=>congrArg LV.v (C I fun e=>?_);subst e;have:=ZR.1 p5 _ K;simp at this
 ·obtain⟨rfl,rfl⟩:=A j z h;rw[B] at E;exact eg b E
 ·rw[(A j z h).1,(A k G H).1]
theorem zH{ρ:Nat->LV}{S:Nat->Prop}{w w':World}{v:Value}{i:Nat}{en:UU}{s:Slot}(u:Value)(hb:Below w.heap.size w w')
  (p5:en.XO.all (fun j=> !Nat.beq j i)=true)
  (eg:∀b,YC u=some b->w.heap.size<=b/\b<w'.heap.size)
  (E3:∀S' ρ',(∀k,k<w.heap.size->S' k->S k)->mJ ρ ρ' en.XO->en.ok ρ' S' w' (.of u))
  (hs:∀S' ρ',(∀k,k<w.heap.size->S' k->S k)->(ρ' i).v=u->(∀j,j≠i->ρ' j=ρ j)->s.ok ρ' S' w' v):WU ρ S w s [(i,en)] v w':=
 ES (.of u) hb p5 (fun b h=>eg b (pC.1 h)) E3 hs
theorem kY(w:World)(o:Obj):Below w.heap.size w (w.alloc o):=(Below.refl _ _).alloc (XZ _) o
theorem Qx{S S':Nat->Prop}{w w':World}(hb:Below w.heap.size w w')(h:∀k,k<w.heap.size->S' k->S k):Ext S S' w w':=rC hb h
theorem WU.box{ρ:Nat->LV}{S:Nat->Prop}{w:World}{T:TypeId}{l:List Slot}{cs:List Value}(i:Nat)(hl:aZ ρ S w l cs)
  (p5:(dR l).all (fun j=> !Nat.beq j i)=true):WU ρ S w (.ptr i 0) [(i,.box T l)] (.pointer (some ⟨w.heap.size,0,none⟩)) (w.alloc (.cells cs.toArray T)):=by
 refine zH (.pointer (some ⟨w.heap.size,0,none⟩)) (kY _ _) p5 ?_ ?_ ?_
 ·intro b u;simp[YC] at u;subst u;exact⟨XZ _,by simp⟩
 ·intro z ρ' h ha;exact⟨⟨_,cs,rfl,heap_alloc_new _ _,fN l cs hl (Qx (kY _ _) h) ha⟩,fun _ h=>by cases h⟩
 ·intro z ρ' _ hi _;simp only[Slot.ok];exact⟨⟨_,hi⟩,by rw[hi];rfl⟩
section
variable {F:WK}{σ:AS}{pb:Option Nat}{s:Slot}{d:Option Tmp}{ty:TypeId}{p:String}{af:Array Edge}{gd:Option (Nat×Bool)}{x y c:Operand}
theorem xB(P:Program)(w:World)(T:TypeId)(v:Value):(newVar T v).run P w= .ok ⟨w.heap.size,0,none⟩ (w.alloc (.cells v.cells T)):=by
 simp[newVar,newRow]
theorem cK{α:Type}{e:Wr α}{z:α}{T:TypeId}{l:List Slot}(i:Nat)(hx:cZ σ.g x=some (.v e z))(hl:J2 l e z)(p5:(dR l).all (fun j=> !Nat.beq j i)=true):
  JO F ⟨d,.box T x,ty,p,af,gd⟩ σ (.ptr i 0) [(i,.box T l)]:=by
 intro ρ S a w K;have h:=qR (s:= .v e z) rfl (K.slot x (by simp[Op.operands]) _ hx);simp only[Slot.YI] at h;refine UX.value (w':=w.alloc (.cells (a.eval x).cells.toList.toArray T)) (v:= .pointer (some ⟨w.heap.size,0,none⟩)) (by simp[execOp,Instr.box,xB]) ?_;exact WU.box i ((hl ρ S w _).2 h) p5
theorem Dr{T:TypeId}{l:List Slot}(i:Nat)(hx:cZ σ.g x=some (.agg l))(p5:(dR l).all (fun j=> !Nat.beq j i)=true):
  JO F ⟨d,.box T x,ty,p,af,gd⟩ σ (.ptr i 0) [(i,.box T l)]:=by
 intro ρ S a w K;have h:=K.slot x (by simp[Op.operands]) _ hx;simp only[Slot.ok] at h;obtain⟨u,z,A⟩:=h;refine UX.value (w':=w.alloc (.cells u.toArray T)) (v:= .pointer (some ⟨w.heap.size,0,none⟩)) (by simp[execOp,Instr.box,xB,z,Value.cells]) ?_;exact WU.box i A p5
def Zr(cs:List Value)(l:List Slot):Prop:=∀ρ S w,aZ ρ S w l cs
theorem Zr.nil:Zr [] []:=fun _ _ _=>rfl
theorem Zr.cons{cs:List Value}{l:List Slot}{α:Type}{e:Wr α}{z:α}{c:List Value}(h:∀S w,e.ok z S w c)(k:Zr cs l):Zr (c++cs) (.v e z::l):=fun ρ S w=>by
 simp only[aZ];exact⟨c,cs,rfl,by simp only[Slot.YI];exact h S w,k ρ S w⟩
theorem Z.int(k:IntKind):∀S w,(Wr.int k).ok 0 S w [.int k 0]:=fun _ _=>⟨rfl,by cases k<;>decide⟩
theorem Z.bool:∀S w,Wr.bool.ok false S w [.bool false]:=fun _ _=>rfl
theorem Z.sl{α:Type}(e:Wr α):∀S w,(Wr.sl e).ok [] S w [.slice none 0 0]:=fun _ _=>⟨none,0,rfl,by simp,.inl rfl⟩
theorem Z.err(T:TypeId):∀S w,(Wr.err T).ok none S w [.nilIface]:=fun _ _=>rfl
theorem Z.arr{α:Type}{e:Wr α}{z:α}{c:List Value}(m:Nat)(h:∀S w,e.ok z S w c):∀S w,(Wr.arr m e).ok (List.replicate m z) S w (List.replicate m c).flatten:=by
 intro S w;refine⟨by simp,?_⟩
 induction m with
 |zero=>simp[Wr.YG]
 |succ m u=>rw[aDr,aDr,aC1];exact⟨c,_,rfl,h S w,u⟩
theorem Z.pr{α β:Type}{a:Wr α}{b:Wr β}{x:α}{y:β}{c d:List Value}(h:∀S w,a.ok x S w c)(k:∀S w,b.ok y S w d):∀S w,(Wr.pr a b).ok (x,y) S w (c++d):=fun S w=>⟨c,d,rfl,h S w,k S w⟩
theorem aN{T:TypeId}{z:Value}{cs:List Value}{l:List Slot}(i:Nat)(hz:∀w,(zeroValue T).run F.P w= .ok z w)(hc:z.cells=cs.toArray)(hl:Zr cs l)(p5:(dR l).all (fun j=> !Nat.beq j i)=true):
  JO F ⟨d,.alloc T,ty,p,af,gd⟩ σ (.ptr i 0) [(i,.box T l)]:=by
 intro ρ S a w K;refine UX.value (w':=w.alloc (.cells cs.toArray T)) (v:= .pointer (some ⟨w.heap.size,0,none⟩)) (by simp[execOp,Instr.alloc,hz,xB,hc]) ?_;exact WU.box i (hl ρ S w) p5
theorem zI{xs:Array Operand}{ρ:Nat->LV}{S a w}(K:j6 σ xs ρ S a w)(hm:x∈xs){i off:Nat}{T:TypeId}{l:List Slot}(hx:cZ σ.g x=some (.ptr i off))(he:aW σ.d i=some (.box T l pb)):
  ∃b cs,(ρ i).v= .pointer (some ⟨b,0,none⟩)/\a.eval x= .pointer (some ⟨b,off,none⟩)/\w.heap[b]? =some (.cells cs.toArray T (0,0))/\aZ ρ S w l cs:=by
 have h:=K.slot x hm _ hx;simp only[Slot.ok] at h;obtain⟨⟨b,u⟩,z⟩:=h;have:=(K.w7 x hm _ hx i (by simp[Slot.XO]) _ he).1;rw[u] at z;obtain⟨⟨A,cs,B,C,D⟩,_⟩:=this;have:A=b:=by rw[u] at B;simpa using B.symm
 subst this;exact⟨A,cs,u,z,C,D⟩
theorem aJ{T U:TypeId}{l:List Slot}{i off:Nat}(hx:cZ σ.g x=some (.ptr i off))(he:aW σ.d i=some (.box T l pb))(ho:nJ l off=some s)
  (hA:∀w,(isAgg U).run F.P w= .ok s.ag w) (hS:∀w,(sizeOf U).run F.P w= .ok s.sz w):JO F ⟨d,.load U x,ty,p,af,gd⟩ σ s []:=by
 intro ρ S a w K;obtain⟨b,G,z,C,D,E⟩:=zI K (by simp[Op.operands]) hx he;obtain⟨A,c,H,rfl,rfl,B,_⟩:=uP ho E;have h:VD w b A.length c:=by have:=(VD.of_heap D).sub;simpa using this
 have u:=nL B;refine UX.value (w':=w) (v:=if s.ag then .agg c.toArray else c.headD undef) ?_ (WU.same (Zd B));have:(loadVar U ⟨b,A.length,none⟩).run F.P w= .ok (if s.ag then .agg c.toArray else c.headD undef) w:=by
  unfold loadVar;simp only[Sem.run_bind,hA,Result.andThen_ok];cases ha:s.ag with
  |true=>
   simp only[ZH,Sem.run_bind,hS,Result.andThen_ok];rw[<-u,run_loadCells_list w _ c h.cell];simp
  |false=>
   have z:c.length=1:=by
    rw[u];cases s<;>simp only[Slot.ag,Slot.sz] at ha ⊢;exact Wr.one _ ha
   obtain⟨v,rfl⟩:=aCh.1 z;have:=h.cell 0 v rfl;simp[Addr.add] at this;simp[this]
 simp[execOp,C,Instr.loadAt,Instr.sureAddr,this]
theorem aS{α:Type}{e:Wr α}{z:α}{T U:TypeId}{l:List Slot}{i:Nat}(hx:cZ σ.g x=some (.ptr i 0))(he:aW σ.d i=some (.box T l pb))(hl:J2 l e z)
  (hA:∀w,(isAgg U).run F.P w= .ok e.agg w) (hS:∀w,(sizeOf U).run F.P w= .ok e.n w):JO F ⟨d,.load U x,ty,p,af,gd⟩ σ (.v e z) []:=by
 intro ρ S a w K;obtain⟨b,h,D,A,B,C⟩:=zI K (by simp[Op.operands]) hx he;have u:=(hl ρ S w h).1 C;refine UX.value (w':=w) (v:=e.pk h) ?_ (WU.same (by simp only[Slot.ok];exact⟨h,u,rfl⟩));have:=Fg (P:=F.P) (VD.of_heap B) u hA hS;simp[execOp,A,Instr.loadAt,Instr.sureAddr,this]
theorem gZ{T U:TypeId}{l:List Slot}{i n:Nat}(hx:cZ σ.g x=some (.ptr i 0))(he:aW σ.d i=some (.box T l pb))(hn:(l.map Slot.sz).sum=n)
  (hA:∀w,(isAgg U).run F.P w= .ok true w) (hS:∀w,(sizeOf U).run F.P w= .ok n w):JO F ⟨d,.load U x,ty,p,af,gd⟩ σ (.agg l) []:=by
 intro ρ S a w K;obtain⟨b,h,G,B,z,u⟩:=zI K (by simp[Op.operands]) hx he;have A:h.length=n:=by
  rw[<-hn];clear hn hS hx he z
  induction l generalizing h with
  |nil=>simp only[aZ] at u;simp[u]
  |cons t l E=>
   simp only[aZ] at u;obtain⟨c,d,rfl,C,D⟩:=u;rw[pT,nL C,E d D];simp
 refine UX.value (w':=w) (v:= .agg h.toArray) ?_ (WU.same (by simp only[Slot.ok];exact⟨h,rfl,u⟩));have:(loadVar U ⟨b,0,none⟩).run F.P w= .ok (.agg h.toArray) w:=by
  unfold loadVar;simp only[Sem.run_bind,hA,Result.andThen_ok,ZH,hS];rw[<-A,run_loadCells_list w _ h (VD.of_heap z).cell];simp
 simp[execOp,B,Instr.loadAt,Instr.sureAddr,this]
theorem bO{α:Type}{e:Wr α}{z:α}{U:TypeId}(hx:cZ σ.g x=some (.XA e z))(hA:∀w,(isAgg U).run F.P w= .ok e.agg w)(hS:∀w,(sizeOf U).run F.P w= .ok e.n w):
  JO F ⟨d,.load U x,ty,p,af,gd⟩ σ (.v e z) []:=by
 intro ρ S a w K;have h:=K.slot x (by simp[Op.operands]) _ hx;simp only[Slot.ok] at h;obtain⟨b,D,u,B,_,_,C,A⟩:=h;refine UX.value (w':=w) (v:=e.pk u) ?_ (WU.same (by simp only[Slot.ok];exact⟨u,A,rfl⟩));have:=Fg (P:=F.P) C A hA hS;simp[execOp,B,Instr.loadAt,Instr.sureAddr,this]
theorem Cp{P:Program}{w:World}{U:TypeId}{fs:Array Field}{n b off m:Nat}{fl:Field}(hU:∀w,(underlying U).run P w= .ok (.struct fs) w)(hf:fs[n]? =some fl)(hm:∀w,(sizeOf fl.type).run P w= .ok m w)(YD:Nat.beq m 0=false):
  (Instr.fieldAt U (.pointer (some ⟨b,off,none⟩)) n).run P w= .ok (.pointer (some ⟨b,off+fl.offset,none⟩)) w:=by
 have u:m≠0:=fun e=>by subst e;simp at YD
 have:Addr.add ⟨b,off,none⟩ fl.offset=⟨b,off+fl.offset,none⟩:=by
  unfold Addr.add;split
  ·rename_i h;rw[h];rfl
  ·rfl
 simp[Instr.fieldAt,hU,hf,Instr.sureAddr,fieldPlace,hm,u,this]
theorem aB(o:Nat){U:TypeId}{fs:Array Field}{n i off m:Nat}{fl:Field}(hx:cZ σ.g x=some (.ptr i off))(hU:∀w,(underlying U).run F.P w= .ok (.struct fs) w)(hf:fs[n]? =some fl)(hm:∀w,(sizeOf fl.type).run F.P w= .ok m w)(YD:Nat.beq m 0=false)(ho:Nat.beq (off+fl.offset) o=true):
  JO F ⟨d,.fieldAddr U x n,ty,p,af,gd⟩ σ (.ptr i o) []:=by
 have ho:=o5 ho;subst ho;intro ρ S a w K;have h:=K.slot x (by simp[Op.operands]) _ hx;simp only[Slot.ok] at h;obtain⟨⟨b,u⟩,z⟩:=h;rw[u] at z;refine UX.value (w':=w) (v:= .pointer (some ⟨b,off+fl.offset,none⟩)) ?_ (WU.same (by simp only[Slot.ok];exact⟨⟨b,u⟩,by rw[u];rfl⟩));have:=Cp (P:=F.P) (w:=w) (b:=b) (off:=off) hU hf hm YD;simp only[execOp,z,Cm];simp[this]
def te{α β:Type}(e:Wr α)(z:α)(off:Nat)(e':Wr β)(z':β):Prop:=∀S w cs,e.ok z S w cs->∃a c d,cs=a++(c++d)/\a.length=off/\e'.ok z' S w c
theorem te.here{α:Type}{e:Wr α}{z:α}:te e z 0 e z:=fun _ _ u h=>⟨[],u,[],by simp,rfl,h⟩
theorem te.fst{α β γ:Type}{a:Wr α}{b:Wr β}{e':Wr γ}{z:α×β}{z':γ}{off:Nat}(h:te a z.1 off e' z'):te (Wr.pr a b) z off e' z':=by
 rintro S w F ⟨c,d,rfl,E,G⟩;obtain⟨u,A,B,rfl,C,D⟩:=h S w c E;exact⟨u,A,B++d,by simp,C,D⟩
theorem te.snd{α β γ:Type}{a:Wr α}{b:Wr β}{e':Wr γ}{z:α×β}{z':γ}{off:Nat}(h:te b z.2 off e' z'):te (Wr.pr a b) z (a.n+off) e' z':=by
 rintro S w G ⟨c,d,rfl,E,F⟩;obtain⟨u,A,B,rfl,C,D⟩:=h S w d F;exact⟨c++u,A,B,by simp,by rw[pT,a.len E,C],D⟩
theorem cG{α β:Type}{e:Wr α}{z:α}{e':Wr β}{z':β}{U:TypeId}{fs:Array Field}{n m off:Nat}{fl:Field}(hx:cZ σ.g x=some (.XA e z))(hU:∀w,(underlying U).run F.P w= .ok (.struct fs) w)(hf:fs[n]? =some fl)
  (hm:∀w,(sizeOf fl.type).run F.P w= .ok m w) (YD:Nat.beq m 0=false) (hp:te e z off e' z') (dw:off=fl.offset):JO F ⟨d,.fieldAddr U x n,ty,p,af,gd⟩ σ (.XA e' z') []:=by
 intro ρ S a w K;have h:=K.slot x (by simp[Op.operands]) _ hx;simp only[Slot.ok] at h;obtain⟨b,o,u,A,B,C,D,E⟩:=h;obtain⟨L,G,M,rfl,H,I⟩:=hp S w u E
 refine UX.value (w':=w) (v:= .pointer (some ⟨b,o+fl.offset,none⟩)) ?_ (WU.same (by
  simp only[Slot.ok];exact⟨b,_,G,rfl,B,C,by rw[<-dw,<-H];exact D.sub,I⟩))
 have:=Cp (P:=F.P) (w:=w) (b:=b) (off:=o) hU hf hm YD;simp only[execOp,A];simp[this]
def idx{α:Type}(xs:List α)(n:Int):Option α:=if 0<=n then xs[n.toNat]? else none
theorem dO{α:Type}{xs:List α}{n:Int}{y:α}(h:idx xs n=some y):0<=n/\n.toNat<xs.length/\xs[n.toNat]? =some y:=by
 unfold idx at h;split at h
 ·rename_i z;refine⟨z,?_,h⟩;rcases J0 n.toNat xs.length with u | u
  ·exact u
  ·simp[V4 u] at h
 ·cases h
theorem Cq{P:Program}{w:World}{U E:TypeId}{m b off len cap:Nat}{k:IntKind}{n:Int}(hU:∀w,(underlying U).run P w= .ok (.slice E) w)(hE:∀w,(sizeOf E).run P w= .ok m w)(h0:0<=n)(h1:n<len):
  (Instr.indexAt U (.slice (some ⟨b,off,none⟩) len cap) (.int k n)).run P w= .ok (.pointer (some ⟨b,off+n.toNat*m,none⟩)) w:=by
 have:Addr.add ⟨b,off,none⟩ (n.toNat*m)=⟨b,off+n.toNat*m,none⟩:=by
  unfold Addr.add;split
  ·rename_i h;rw[h];rfl
  ·rfl
 simp[Instr.indexAt,asIntOf,hU,h0,h1,hE,this]
theorem gO{α:Type}{e:Wr α}{xs:List α}{z:α}{U E:TypeId}{k:IntKind}{n:Int}(hz:Sw.idx xs n=some z)(hx:cZ σ.g x=some (.v (Wr.sl e) xs))(hy:cZ σ.g y=some (.v (Wr.int k) n))
  (hU:∀w,(underlying U).run F.P w= .ok (.slice E) w) (hE:∀w,(sizeOf E).run F.P w= .ok e.n w):JO F ⟨d,.indexAddr U x y,ty,p,af,gd⟩ σ (.XA e z) []:=by
 intro ρ S a w K;have h:=K.slot x (by simp[Op.operands]) _ hx;have A:=(fQ K (x:=y) (by simp[Op.operands]) hy).1;simp only[Slot.ok] at h;obtain⟨Q,cap,B,_,u⟩:=rZ.1 h;obtain⟨C,D,G⟩:=dO hz;rcases u with u |⟨b,off,V,rfl,L,M,N,O⟩
 ·subst u;simp at D
 obtain⟨R,c,T,rfl,H,I,_⟩:=qP O G;refine UX.value (w':=w) (v:= .pointer (some ⟨b,off+n.toNat*e.n,none⟩)) ?_ (WU.same (by simp only[Slot.ok];exact⟨b,_,c,rfl,L,M,by rw[<-H];exact N.sub,I⟩));have:=Cq (P:=F.P) (w:=w) (b:=b) (off:=off) (cap:=cap) (k:=k) hU hE C (by omega:n<(xs.length:Int));simp only[execOp,B,A];simp[this]
theorem Cr{n:Nat}(h:n<=9223372036854775807):Co .i64 (n:Int):=by unfold Co;simp only[IntKind.min,IntKind.max,IntKind.signed,IntKind.bits];simp;omega
theorem Gi{P:Program}{w:World}{U E:TypeId}{a:Option Addr}{n cap:Nat}{tt:TypeId}(hU:∀w,(underlying U).run P w= .ok (.slice E) w):(Builtin.len_ #[U] tt #[.slice a n cap]).run P w= .ok (.int .i64 n) w:=by
 simp[Builtin.len_,hU,goInt]
theorem sA{α:Type}{e:Wr α}{xs:List α}{U E:TypeId}(hx:cZ σ.g x=some (.v (Wr.sl e) xs))(hU:∀w,(underlying U).run F.P w= .ok (.slice E) w):
  JO F ⟨d,.call ⟨.builtin .len,#[x],#[U]⟩,ty,p,af,gd⟩ σ (.v (Wr.int .i64) xs.length) []:=by
 intro ρ S a w K;have h:=K.slot x (by simp[Op.operands,Call.operands]) _ hx;simp only[Slot.ok] at h;obtain⟨A,B,u,z,_⟩:=rZ.1 h;refine UX.value (w':=w) (v:= .int .i64 xs.length) ?_ (WU.same (sY (Cr (by have:=z.2;omega)) ρ S w));simp[execOp,resolve,invoke,builtin,u,Gi hU]
theorem yG{xs:Array Operand}{ρ:Nat->LV}{S a w}(K:j6 σ xs ρ S a w)(hm:x∈xs){i:Nat}{en:UU}(hx:cZ σ.g x=some (.ref i))(he:aW σ.d i=some en):
  a.eval x=(ρ i).v/\en.ok ρ S w (ρ i)/\∀b,qO (ρ i) b->S b/\b<w.heap.size:=by
 have h:=K.slot x hm _ hx;simp only[Slot.ok] at h;exact⟨h.2,K.w7 x hm _ hx i (by simp[Slot.XO]) _ he⟩
theorem Qy{α:Type}{e:Wr α}{xs:List α}{T U E:TypeId}{i:Nat}(hx:cZ σ.g x=some (.ref i))(he:aW σ.d i=some (.arr T e xs))(hU:∀w,(underlying U).run F.P w= .ok (.slice E) w):
  JO F ⟨d,.call ⟨.builtin .len,#[x],#[U]⟩,ty,p,af,gd⟩ σ (.v (Wr.int .i64) xs.length) []:=by
 intro ρ S a w K;obtain⟨u,h,_⟩:=yG K (x:=x) (by simp[Op.operands,Call.operands]) hx he;rcases h with⟨rfl,h⟩|⟨b,z,A,B,C,h,_,_,_,_,D⟩
 ·refine UX.value (w':=w) (v:= .int .i64 0) ?_ (WU.same (sY (Cr (n:=0) (by simp)) ρ S w));simp[execOp,resolve,invoke,builtin,u,h,Gi hU]
 ·refine UX.value (w':=w) (v:= .int .i64 xs.length) ?_ (WU.same (sY (Cr (by omega)) ρ S w));simp[execOp,resolve,invoke,builtin,u,h,Gi hU]
end
end Go.Sw
namespace Go.Sw
open Go Go.RowKit
mutual
def Slot.map(r:Nat->Nat):Slot->Slot
 | .v e x=> .v e x
 | .ref i=> .ref (r i)
 | .ptr i off=> .ptr (r i) off
 | .cq i off k n=> .cq (r i) off k n
 | .el i k n off=> .el (r i) k n off
 | .n9 i off h n cap=> .n9 (r i) off h n cap
 | .ki i off n cap=> .ki (r i) off n cap
 | .sub i off n=> .sub (r i) off n
 | .XA e x=> .XA e x
 | .YV g cap=> .YV g (fH r cap)
 | .top=> .top
 | .agg l=> .agg (fH r l)
 | .VO l=> .VO (fH r l)
def fH(r:Nat->Nat):List Slot->List Slot
 | []=>[]
 |s::l=>s.map r::fH r l
end
def UU.map(r:Nat->Nat):UU->UU
 | .box T l h=> .box T (fH r l) h
 | .arr T e xs=> .arr T e xs
 | .mp e f m=> .mp e f m
 | .dp D x u=> .dp D x (u.map r)
section
variable {ρ:Nat->LV}{S:Nat->Prop}{w:World}{r:Nat->Nat}
mutual
theorem Ze:∀(s:Slot) (cs:List Value),(s.map r).YI ρ S w cs↔s.YI (fun i=>ρ (r i)) S w cs
 | .v e x,cs=>by simp only[Slot.map,Slot.YI]
 | .ref i,cs=>by simp only[Slot.map,Slot.YI]
 | .ptr i off,cs=>by simp only[Slot.map,Slot.YI]
 | .cq i off k n,cs=>by simp only[Slot.map,Slot.YI]
 | .el i k n off,cs=>by simp only[Slot.map,Slot.YI]
 | .n9 i off h n cap,cs=>by simp only[Slot.map,Slot.YI]
 | .ki i off n cap,cs=>by simp only[Slot.map,Slot.YI]
 | .sub i off n,cs=>by simp only[Slot.map,Slot.YI]
 | .XA e x,cs=>by simp only[Slot.map,Slot.YI]
 | .YV g cap,cs=>by simp only[Slot.map,Slot.YI,Ko cap]
 | .top,cs=>by simp only[Slot.map,Slot.YI]
 | .agg l,cs=>by simp only[Slot.map,Slot.YI]
 | .VO l,cs=>by simp only[Slot.map,Slot.YI]
theorem Ko:∀(l:List Slot) (vs:List Value),aX ρ S w (fH r l) vs↔aX (fun i=>ρ (r i)) S w l vs
 | [],vs=>by simp only[fH,aX]
 |s::l,vs=>by simp only[fH,aX,Ln s,Ko l]
theorem Qz:∀(l:List Slot) (vs:List Value),aZ ρ S w (fH r l) vs↔aZ (fun i=>ρ (r i)) S w l vs
 | [],vs=>by simp only[fH,aZ]
 |s::l,vs=>by simp only[fH,aZ,Ze s,Qz l]
theorem Ln:∀(s:Slot) (u:Value),(s.map r).ok ρ S w u↔s.ok (fun i=>ρ (r i)) S w u
 | .v e x,h=>by simp only[Slot.map,Slot.ok]
 | .ref i,h=>by simp only[Slot.map,Slot.ok]
 | .ptr i off,h=>by simp only[Slot.map,Slot.ok]
 | .cq i off k n,h=>by simp only[Slot.map,Slot.ok]
 | .el i k n off,h=>by simp only[Slot.map,Slot.ok]
 | .n9 i off z n cap,h=>by simp only[Slot.map,Slot.ok]
 | .ki i off n cap,h=>by simp only[Slot.map,Slot.ok]
 | .sub i off n,h=>by simp only[Slot.map,Slot.ok]
 | .XA e x,h=>by simp only[Slot.map,Slot.ok]
 | .YV g cap,h=>by simp only[Slot.map,Slot.ok,Ko cap]
 | .top,h=>by simp only[Slot.map,Slot.ok]
 | .agg l,h=>by simp only[Slot.map,Slot.ok,Qz l]
 | .VO l,h=>by simp only[Slot.map,Slot.ok,Ko l]
end
theorem Gj(en:UU)(u:LV):(en.map r).ok ρ S w u↔en.ok (fun i=>ρ (r i)) S w u:=by
 cases en with
 |box T l h=>simp only[UU.map,UU.ok,Qz]
 |arr T e xs=>simp only[UU.map,UU.ok]
 |mp e f m=>simp only[UU.map,UU.ok]
 |dp D x z=>simp only[UU.map,UU.ok,aEt,Function.comp_def]
end
def Lo(r:Nat->Nat):List (Nat×UU)->List (Nat×UU)
 | []=>[]
 | (i,h)::l=>(r i,h.map r)::Lo r l
theorem wX(k:Nat):∀(l:List (Nat×UU)) (j:Nat) (en:UU),aW (Lo (·+k) l) j=some en->∃i en',j=i+k/\aW l i=some en'/\en=en'.map (·+k)
 | [],j,en,h=>by simp[Lo,aW] at h
 | (i,en')::l,j,en,h=>by
  simp only[Lo,aW] at h;cases hb:Nat.beq (i+k) j with
  |true=>
   have:=o5 hb;rw[hb] at h;simp at h;exact⟨i,en',this.symm,by simp[aW],h.symm⟩
  |false=>
   rw[hb] at h;obtain⟨u,A,z,B,C⟩:=wX k l j en (by simpa using h);refine⟨u,A,z,?_,C⟩;have:Nat.beq i u=false:=by
    cases hc:Nat.beq i u with
    |false=>rfl
    |true=>have:=o5 hc;subst this;subst z;simp at hb
   simp only[aW,this];exact B
theorem xC(k:Nat):∀(l:List (Nat×UU)) (i:Nat) (en:UU),aW l i=some en->aW (Lo (·+k) l) (i+k)=some (en.map (·+k))
 | [],i,en,h=>by simp[aW] at h
 | (u,en')::l,i,en,h=>by
  simp only[aW] at h;simp only[Lo,aW];cases hb:Nat.beq u i with
  |true=>
   have:=o5 hb;subst this;rw[hb] at h;simp at h;subst h;simp
  |false=>
   rw[hb] at h;have z:u≠i:=fun e=>by subst e;simp at hb
   have:Nat.beq (u+k) (i+k)=false:=by
    cases hc:Nat.beq (u+k) (i+k) with
    |false=>rfl
    |true=>have:=o5 hc;omega
   rw[this];exact xC k l i en (by simpa using h)
theorem WU.shift{ρ:Nat->LV}{S:Nat->Prop}{w w':World}{res:Slot}{new:List (Nat×UU)}{v:Value}(k:Nat)(XP:kO res new=true)(h:WU ρ S w res new v w'):
  WU ρ S w (res.map (·+k)) (Lo (·+k) new) v w':=by
 obtain⟨ρ',V,O,P,H⟩:=h;simp only[kO,B9,ZR] at XP;let E:Nat->LV:=fun j=>if k<=j/\(aW new (j - k)).isSome=true then ρ' (j - k) else ρ j
 have C:∀i,(aW new i).isSome=true->E (i+k)=ρ' i:=fun i u=>by simp[E,u]
 have L:∀b,Un S E (Lo (·+k) new) b↔Un S ρ' new b:=by
  intro b;constructor
  ·rintro (h |⟨j,A,B,z⟩)
   ·exact .inl h
   ·obtain⟨i,D,rfl,u,_⟩:=wX k new j A B;rw[C i (by rw[u];rfl)] at z;exact .inr ⟨i,D,u,z⟩
  ·rintro (h |⟨i,A,u,z⟩)
   ·exact .inl h
   ·exact .inr ⟨i+k,_,xC k new i A u,by rw[C i (by rw[u];rfl)];exact z⟩
 have I:Ext (Un S ρ' new) (Un S E (Lo (·+k) new)) w' w':=⟨XZ _,fun b _ z=>⟨rfl,fun h=>z ((L b).1 h)⟩⟩;refine⟨E,fun j B=>?_,O,?_,⟨fun j A B=>?_,fun j A b B z=>?_,fun j M A D b B N z K=>?_⟩⟩
 ·have:¬(k<=j/\(aW new (j - k)).isSome=true):=by
   rintro⟨T,U⟩;obtain⟨A,Q⟩:=Option.isSome_iff_exists.1 U;have:=xC k new (j - k) A Q;rw[Nat.sub_add_cancel T,B] at this;cases this
  simp only[E,VN this]
 ·rw[Ln];exact Slot.UR res v P I (fun i u=>congrArg LV.v (C i (XP.1 i u)))
 ·obtain⟨i,D,rfl,u,rfl⟩:=wX k new j A B;rw[Gj,C i (by rw[u];rfl)];exact UU.UR (H.own i D u) I (fun F G=>congrArg LV.v (C F (XP.2 _ (mM u) F G))) (fun _ _=>rfl)
 ·obtain⟨i,D,rfl,u,rfl⟩:=wX k new j A B;rw[C i (by rw[u];rfl)] at z;exact H.fresh i D b u z
 ·obtain⟨i,e,rfl,u,rfl⟩:=wX k new j A B;obtain⟨F,R,rfl,G,rfl⟩:=wX k new M D N;rw[C i (by rw[u];rfl)] at z;rw[C F (by rw[G];rfl)] at K;rw[H.inj i F e R b u G z K]
def Frz{α β:Type}(D:DE α)(x:α)(e:Wr β)(z:β):Prop:=∀S S' w u,D.ok x S w u []->Ext S S' w w->(∀b,qO u b->¬S' b)->e.ok z S' w [u.v]/\e.pk [u.v]=u.v
def QV(en en':UU):Prop:=en'.XO=[]/\∀ρ S w u,en.ok ρ S w u->en'.ok ρ S w u
mutual
inductive ak (σ:AS) (r:Nat->Nat) (ls:List Nat):Slot->Slot->Prop
 |same {s:Slot}:ak σ r ls (s.map r) s
 |db {α:Type} {j:Nat} {T:TypeId} {e:Wr α} {xs:List α}:aW σ.d j=some (.arr T e xs)->ls.all (fun i=> !Nat.beq (r i) j)=true->ak σ r ls (.ref j) (.v (Wr.sl e) xs)
 |agg {l l':List Slot}:R4 σ r ls l l'->ak σ r ls (.agg l) (.agg l')
 |pack {α:Type} {l l':List Slot} {e:Wr α} {z:α}:R4 σ r ls l l'->J2 l' e z->e.agg=true->ak σ r ls (.agg l) (.v e z)
 | D3 {α:Type} {j:Nat} {T:TypeId} {l l':List Slot} {pb:Option Nat} {e:Wr α} {z:α}:aW σ.d j=some (.box T l pb)->ls.all (fun i=> !Nat.beq (r i) j)=true->R4 σ r ls l l'->J2 l' e z->ak σ r ls (.ptr j 0) (.XA e z)
 | YV {g:Nat} {l l':List Slot}:R4 σ r ls l l'->ak σ r ls (.YV g l) (.YV g l')
 |aIx {α β:Type} {j:Nat} {D:DE α} {x:α} {e:Wr β} {z:β}:aW σ.d j=some (.dp D x [])->ls.all (fun i=> !Nat.beq (r i) j)=true->Frz D x e z->ak σ r ls (.ref j) (.v e z)
 |enc {α β:Type} {e:Wr α} {f:Wr β} {x:α} {y:β}:(∀S w cs,e.ok x S w cs->f.ok y S w cs)->(∀cs,e.pk cs=f.pk cs)->ak σ r ls (.v e x) (.v f y)
inductive R4 (σ:AS) (r:Nat->Nat) (ls:List Nat):List Slot->List Slot->Prop
 |nil:R4 σ r ls [] []
 |cons {s s':Slot} {l l':List Slot}:ak σ r ls s s'->R4 σ r ls l l'->R4 σ r ls (s::l) (s'::l')
end
inductive V7 (σ:AS) (r:Nat->Nat) (ls:List Nat):List (Nat×Slot)->Prop
 |nil:V7 σ r ls []
 |cons {t:Nat} {s s':Slot} {g:List (Nat×Slot)}:lk σ.g t=some s->ak σ r ls s s'->V7 σ r ls g->V7 σ r ls ((t,s')::g)
inductive C0 (σ:AS) (r:Nat->Nat) (ls:List Nat):List (Nat×UU)->Prop
 |nil:C0 σ r ls []
 |box {i:Nat} {T:TypeId} {l l':List Slot} {pb:Option Nat} {d:List (Nat×UU)}:aW σ.d (r i)=some (.box T l pb)->R4 σ r ls l l'->C0 σ r ls d->C0 σ r ls ((i,.box T l' pb)::d)
 |aRh {i:Nat} {T:TypeId} {l l':List Slot} {pb:Option Nat} {d:List (Nat×UU)}:aW σ.d (r i)=some (.box T l pb)->R4 σ r ls l l'->C0 σ r ls d->C0 σ r ls ((i,.box T l' none)::d)
 |arr {α:Type} {i:Nat} {T:TypeId} {e:Wr α} {xs:List α} {d:List (Nat×UU)}:aW σ.d (r i)=some (.arr T e xs)->C0 σ r ls d->C0 σ r ls ((i,.arr T e xs)::d)
 |mp {α β:Type} {i:Nat} {e:Wr α} {f:Wr β} {m:List (α×β)} {d:List (Nat×UU)}:aW σ.d (r i)=some (.mp e f m)->C0 σ r ls d->C0 σ r ls ((i,.mp e f m)::d)
 |dp {α:Type} {i:Nat} {D:DE α} {x:α} {l:List Nat} {d:List (Nat×UU)}:aW σ.d (r i)=some (.dp D x (l.map r))->C0 σ r ls d->C0 σ r ls ((i,.dp D x l)::d)
 |cv {i:Nat} {en en':UU} {d:List (Nat×UU)}:aW σ.d (r i)=some en->QV en en'->C0 σ r ls d->C0 σ r ls ((i,en')::d)
def Ra(r:Nat->Nat):List Nat->Bool
 | []=>true
 |i::l=>l.all (fun j=> !Nat.beq (r j) (r i)) && Ra r l
theorem Pd{r:Nat->Nat}:∀{l:List Nat},Ra r l=true->∀i∈l,∀j∈l,r i=r j->i=j
 | [],_,i,A,_,_,_=>by simp at A
 |x::l,h,i,A,j,E,B=>by
  simp only[Ra,B9,ZR] at h;obtain⟨C,F⟩:=h;rcases j4.1 A with e | D
  ·rcases j4.1 E with u | z
   ·rw[e,u]
   ·have:=C j z;rw[<-e,B] at this;simp at this
  ·rcases j4.1 E with u | z
   ·have:=C i D;rw[<-u,B] at this;simp at this
   ·exact Pd F i D j z B
section
variable {F:WK}{σ:AS}{pb:Option Nat}{r:Nat->Nat}{ls:List Nat}{ρ:Nat->LV}{w:World}{d':List (Nat×UU)}
theorem Rb{α:Type}{e:Wr α}{xs:List α}{T:TypeId}{ρ S S' w u}(h:(UU.arr T e xs).ok ρ S w u)(hE:Ext S S' w w)(hb:∀b,qO u b->¬S' b):(Wr.sl e).ok xs S' w [u.v]:=by
 rcases h with⟨rfl,z⟩|⟨b,B,F,C,G,z,A,D,E,H,I⟩<;>rw[z]
 ·exact⟨none,0,rfl,by simp,.inl rfl⟩
 ·refine⟨_,B,rfl,⟨E,by omega⟩,.inr ⟨b,_,C,rfl,?_,hb b (.inl (by rw[z];rfl)),?_,Wr.VB D hE⟩⟩
  ·exact(VD.of_heap A).lt
  ·have:=(VD.of_heap A).sub;simpa using this
mutual
theorem ak.spec(hc:Core F σ.d ρ w)(hE:Ext (Un F.S0 ρ σ.d) (Un F.S0 (fun i=>ρ (r i)) d') w w)(hn:∀j en,aW σ.d j=some en->ls.all (fun i=> !Nat.beq (r i) j)=true->∀b,qO (ρ j) b->¬Un F.S0 (fun i=>ρ (r i)) d' b):
  ∀{s s':Slot},ak σ r ls s s'->(∀u,s.ok ρ (Un F.S0 ρ σ.d) w u->s'.ok (fun i=>ρ (r i)) (Un F.S0 (fun i=>ρ (r i)) d') w u)/\
   (∀cs,s.YI ρ (Un F.S0 ρ σ.d) w cs->s'.YI (fun i=>ρ (r i)) (Un F.S0 (fun i=>ρ (r i)) d') w cs)
 |_,s',.same=>⟨fun u h=>Slot.UR s' u ((Ln s' u).1 h) hE (fun _ _=>rfl),fun cs h=>vB s' cs ((Ze s' cs).1 h) hE (fun _ _=>rfl)⟩
 |_,_,.db (j:=j) z A=>by
  have C:=Rb (hc.own j _ z) hE (hn j _ z A);refine⟨fun u h=>?_,fun cs h=>?_⟩
  ·simp only[Slot.ok] at h ⊢;rw[h.2];exact⟨_,C,rfl⟩
  ·simp only[Slot.YI] at h ⊢;rw[h.2];exact C
 |_,_,.agg B=>by
  refine⟨fun u h=>?_,fun cs h=>by simp[Slot.YI] at h⟩;simp only[Slot.ok] at h ⊢;obtain⟨cs,z,A⟩:=h;exact⟨cs,z,(R4.spec hc hE hn B).1 cs A⟩
 |_,_,.pack B H O=>by
  refine⟨fun u h=>?_,fun cs h=>by simp[Slot.YI] at h⟩;simp only[Slot.ok] at h ⊢;obtain⟨cs,z,A⟩:=h;exact⟨cs,(H _ _ _ cs).1 ((R4.spec hc hE hn B).1 cs A),by rw[z];simp[Wr.pk,O]⟩
 |_,_,.D3 (j:=j) z A B H=>by
  obtain⟨⟨b,cs,D,E,N⟩,_⟩:=hc.own j _ z;have I:=hn j _ z A b (.inl (by rw[D];rfl));have K:=(H _ _ _ cs).1 ((R4.spec hc hE hn B).1 cs N);have L:b<w.heap.size:=(yq.1 E).1;refine⟨fun u h=>?_,fun P h=>?_⟩
  ·simp only[Slot.ok] at h ⊢;refine⟨b,0,cs,?_,L,I,VD.of_heap E,K⟩;rw[h.2,D];rfl
  ·simp only[Slot.YI] at h ⊢;refine⟨b,0,cs,?_,L,I,VD.of_heap E,K⟩;rw[h.2,D];rfl
 |_,_,.YV B=>by
  refine⟨fun u h=>?_,fun cs h=>?_⟩
  ·simp only[Slot.ok] at h ⊢;obtain⟨vs,z,A⟩:=h;exact⟨vs,z,(R4.spec hc hE hn B).2 vs A⟩
  ·simp only[Slot.YI] at h ⊢;obtain⟨vs,z,A⟩:=h;exact⟨vs,z,(R4.spec hc hE hn B).2 vs A⟩
 |_,_,.aIx (j:=j) z A hf=>by
  obtain⟨C,G⟩:=hf _ _ _ _ (hc.own j _ z) hE (hn j _ z A);refine⟨fun u h=>?_,fun cs h=>?_⟩
  ·simp only[Slot.ok] at h ⊢;rw[h.2];exact⟨_,C,G.symm⟩
  ·simp only[Slot.YI] at h ⊢;rw[h.2];exact C
 |_,_,.enc (f:=f) h G=>by
  refine⟨fun u M=>?_,fun cs hc=>?_⟩
  ·simp only[Slot.ok] at M ⊢;obtain⟨cs,z,A⟩:=M;exact gN ⟨cs,h _ _ _ z,by rw[A,G]⟩ hE
  ·simp only[Slot.YI] at hc ⊢;exact f.mono (h _ _ _ hc) hE
theorem R4.spec(hc:Core F σ.d ρ w)(hE:Ext (Un F.S0 ρ σ.d) (Un F.S0 (fun i=>ρ (r i)) d') w w)(hn:∀j en,aW σ.d j=some en->ls.all (fun i=> !Nat.beq (r i) j)=true->∀b,qO (ρ j) b->¬Un F.S0 (fun i=>ρ (r i)) d' b):
  ∀{l l':List Slot},R4 σ r ls l l'->(∀cs,aZ ρ (Un F.S0 ρ σ.d) w l cs->aZ (fun i=>ρ (r i)) (Un F.S0 (fun i=>ρ (r i)) d') w l' cs)/\(∀vs,aX ρ (Un F.S0 ρ σ.d) w l vs->aX (fun i=>ρ (r i)) (Un F.S0 (fun i=>ρ (r i)) d') w l' vs)
 |_,_,.nil=>⟨fun cs h=>h,fun vs h=>h⟩
 |_,_,.cons D E=>⟨fun cs h=>by
  simp only[aZ] at h ⊢;obtain⟨c,d,z,A,B⟩:=h;exact⟨c,d,z,(ak.spec hc hE hn D).2 c A,(R4.spec hc hE hn E).1 d B⟩,fun vs h=>by
  simp only[aX] at h ⊢;obtain⟨u,C,z,A,B⟩:=h
  exact⟨u,C,z,(ak.spec hc hE hn D).1 u A,(R4.spec hc hE hn E).2 C B⟩⟩
end
theorem V7.spec{g:List (Nat×Slot)}(h:V7 σ r ls g):∀t s',lk g t=some s'->∃s,lk σ.g t=some s/\ak σ r ls s s':=by
 induction h with
 |nil=>intro t s h;simp[lk] at h
 |cons z A _ B=>
  rename_i u C D E _;intro t s h;simp only[lk] at h;cases hb:Nat.beq u t with
  |true=>have:=o5 hb;subst this;rw[hb] at h;simp at h;subst h;exact⟨_,z,A⟩
  |false=>rw[hb] at h;exact B t s h
theorem C0.spec{d:List (Nat×UU)}(h:C0 σ r ls d):∀i en',aW d i=some en'->(∃T l l' pb pb',aW σ.d (r i)=some (.box T l pb)/\en'= .box T l' pb'/\(∀c,pb'=some c->pb=some c)/\R4 σ r ls l l')\/∃en,aW σ.d (r i)=some en/\∀ρ S S' w u,en.ok ρ S w u->Ext S S' w w->en'.ok (fun i=>ρ (r i)) S' w u:=by
 induction h with
 |nil=>intro t s h;simp[aW] at h
 |box A G _ B=>
  rename_i z T l l' pb F _;intro t s h;simp only[aW] at h;cases hb:Nat.beq z t with
  |true=>have:=o5 hb;subst this;rw[hb] at h;simp at h;subst h;exact .inl ⟨T,l,l',pb,pb,A,rfl,fun _ h=>h,G⟩
  |false=>rw[hb] at h;exact B t s h
 |aRh A G _ B=>
  rename_i z T l l' pb F _;intro t s h;simp only[aW] at h;cases hb:Nat.beq z t with
  |true=>have:=o5 hb;subst this;rw[hb] at h;simp at h;subst h;exact .inl ⟨T,l,l',pb,none,A,rfl,(fun _ h=>(by cases h)),G⟩
  |false=>rw[hb] at h;exact B t s h
 |arr A _ B=>
  rename_i α z T e xs F _;intro t s h;simp only[aW] at h;cases hb:Nat.beq z t with
  |true=>
   have:=o5 hb;subst this;rw[hb] at h;simp at h;subst h;exact .inr ⟨_,A,fun ρ S S' w u h C=>UU.UR h C (fun _ E=>by simp[UU.XO] at E) (fun _ _=>rfl)⟩
  |false=>rw[hb] at h;exact B t s h
 |mp A _ B=>
  rename_i α β z e f m F _;intro t s h;simp only[aW] at h;cases hb:Nat.beq z t with
  |true=>
   have:=o5 hb;subst this;rw[hb] at h;simp at h;subst h;exact .inr ⟨_,A,fun ρ S S' w u h C=>UU.UR h C (fun _ E=>by simp[UU.XO] at E) (fun _ _=>rfl)⟩
  |false=>rw[hb] at h;exact B t s h
 |dp A _ B=>
  rename_i α z D x l F _;intro t s h;simp only[aW] at h;cases hb:Nat.beq z t with
  |true=>
   have:=o5 hb;subst this;rw[hb] at h;simp at h;subst h;refine .inr ⟨_,A,fun ρ S S' w u h C=>?_⟩;have:=D.mono h C (fun _ _=>rfl);simp only[UU.ok,aEt,Function.comp_def] at this ⊢;exact this
  |false=>rw[hb] at h;exact B t s h
 |cv A H _ B=>
  rename_i z en en' F _;intro t s h;simp only[aW] at h;cases hb:Nat.beq z t with
  |true=>
   have:=o5 hb;subst this;rw[hb] at h;simp at h;subst h;exact .inr ⟨_,A,fun ρ S S' w u h C=>UU.UR (H.2 _ _ _ _ h) C (fun _ E=>by rw[H.1] at E;simp at E) (fun _ _=>rfl)⟩
  |false=>rw[hb] at h;exact B t s h
theorem Sub.mk{σ':AS}(r:Nat->Nat)(hg:V7 σ r (σ'.d.map (·.1)) σ'.g)(hd:C0 σ r (σ'.d.map (·.1)) σ'.d)(hi:Ra r (σ'.d.map (·.1))=true):Sub F σ σ':=by
 rintro a w ⟨⟨ρ,z,hs⟩,hz,YE⟩;have L:=hd.spec;have E:∀i u,aW σ'.d i=some u->∃YF,aW σ.d (r i)=some YF:=fun i u h=>by
  rcases L i u h with⟨T,l,l',pb,_,A,_⟩|⟨_,A,_⟩
  ·exact⟨_,A⟩
  ·exact⟨_,A⟩
 have H:∀i u,aW σ'.d i=some u->i∈σ'.d.map (·.1):=fun i u h=>ah.2 ⟨_,mM h,rfl⟩;have Q:∀b,Un F.S0 (fun i=>ρ (r i)) σ'.d b->Un F.S0 ρ σ.d b:=by
  rintro b (h |⟨i,u,A,D⟩)
  ·exact .inl h
  ·obtain⟨YF,C⟩:=E i u A;exact .inr ⟨r i,YF,C,D⟩
 have I:Ext (Un F.S0 ρ σ.d) (Un F.S0 (fun i=>ρ (r i)) σ'.d) w w:=⟨XZ _,fun b _ B=>⟨rfl,fun h=>B (Q b h)⟩⟩;have M:∀j u,aW σ.d j=some u->(σ'.d.map (·.1)).all (fun i=> !Nat.beq (r i) j)=true->∀b,qO (ρ j) b->¬Un F.S0 (fun i=>ρ (r i)) σ'.d b:=by
  intro j u K R b B S;rcases S with h |⟨i,G,A,D⟩
  ·have A:=(z.fresh j u b K B).1;exact absurd h (z.apart j u b K B)
  ·obtain⟨YF,C⟩:=E i G A;have:=z.inj j (r i) u YF b K C B D;have N:=ZR.1 R i (H i G A);rw[this] at N;simp at N
 refine⟨⟨fun i=>ρ (r i),⟨z.low,z.size,z.frame,z.os,z.tape,z.output,?_,?_,?_,?_⟩,?_⟩,hz,YE⟩
 ·intro i u h;rcases L i u h with⟨T,l,l',pb,aa,A,rfl,h0,D⟩|⟨YF,A,D⟩
  ·obtain⟨⟨b,P,k1,k2,k3⟩,k4⟩:=z.own _ _ A;exact⟨⟨b,P,k1,k2,(R4.spec z I M D).1 P k3⟩,fun c L5=>k4 c (h0 c L5)⟩
  ·exact D _ _ _ _ _ (z.own _ _ A) I
 ·intro i u b h B;obtain⟨YF,C⟩:=E i u h;exact z.fresh (r i) YF b C B
 ·intro i j u G b h O B U;obtain⟨YF,C⟩:=E i u h;obtain⟨ae,h4⟩:=E j G O;exact Pd hi i (H i u h) j (H j G O) (z.inj _ _ _ _ b C h4 B U)
 ·intro i u b h B;obtain⟨YF,C⟩:=E i u h;exact z.apart (r i) YF b C B
 ·intro t V X;obtain⟨s,A,D⟩:=hg.spec t V X;exact(ak.spec z I M D).1 _ (hs t s A)
end
section
variable {F:WK}{σ:AS}{pb:Option Nat}{d:Option Tmp}{ty:TypeId}{p:String}{af:Array Edge}{gd:Option (Nat×Bool)}
def Arg(σ:AS)(YO:Bool)(x:Operand)(s:Slot):Prop:=∀ρ S a w,j6 σ #[x] ρ S a w->s.ok ρ (if YO then fun _=>False else S) w (a.eval x)
theorem zJ(S:Nat->Prop)(w:World)(b:Bool):Ext S (if b then fun _=>False else S) w w:=by
 cases b
 ·exact Ext.refl _ _
 ·exact⟨XZ _,fun _ _ _=>⟨rfl,fun h=>h⟩⟩
theorem Arg.dir{YO:Bool}{x:Operand}{s:Slot}(h:cZ σ.g x=some s):Arg σ YO x s:=fun ρ S a w K=>
 Slot.UR s _ (K.slot x (by simp) s h) (zJ S w YO) (fun _ _=>rfl)
theorem Arg.ln{YO:Bool}{α:Type}(e:Wr α):Arg σ YO (.const (.slice none 0 0)) (.v (Wr.sl e) []):=fun ρ _ _ w _=>Tk e ρ _ w
theorem Arg.aMh{YO:Bool}(T:TypeId):Arg σ YO (.const .nilIface) (.v (Wr.err T) none):=fun ρ _ _ w _=>Pc T ρ _ w
theorem Arg.ref{α:Type}{x:Operand}{i:Nat}{T:TypeId}{e:Wr α}{xs:List α}(h:cZ σ.g x=some (.ref i))(he:aW σ.d i=some (.arr T e xs)):Arg σ true x (.v (Wr.sl e) xs):=by
 intro ρ S a w K;obtain⟨u,z,_⟩:=yG K (x:=x) (by simp) h he;rw[u];simp only[Slot.ok];exact⟨_,Rb z (zJ S w true) (fun _ _ h=>h),rfl⟩
inductive fc (σ:AS) (YO:Bool):List Slot->List Slot->Prop
 |nil:fc σ YO [] []
 |same {s:Slot} {l l':List Slot}:fc σ YO l l'->fc σ YO (s::l) (s::l')
 |ref {α:Type} {i:Nat} {T:TypeId} {e:Wr α} {xs:List α} {l l':List Slot}:YO=true->aW σ.d i=some (.arr T e xs)->fc σ YO l l'->fc σ YO (.ref i::l) (.v (Wr.sl e) xs::l')
theorem fc.spec{YO:Bool}{l l':List Slot}(h:fc σ YO l l'){ρ S w}(gv:∀i∈dR l,∀en,aW σ.d i=some en->en.ok ρ S w (ρ i)):
  ∀cs,aZ ρ S w l cs->aZ ρ (if YO then fun _=>False else S) w l' cs:=by
 induction h with
 |nil=>intro cs h;exact h
 |same _ C=>
  rename_i s l l' _;intro cs h;simp only[aZ] at h ⊢;obtain⟨c,d,z,A,B⟩:=h;exact⟨c,d,z,vB s c A (zJ S w YO) (fun _ _=>rfl),C (fun i u=>gv i (by simp[dR,u])) d B⟩
 |ref D E _ C=>
  rename_i α i T e xs l l' _;intro cs h;simp only[aZ,Slot.YI] at h ⊢;obtain⟨c,d,z,A,B⟩:=h;refine⟨c,d,z,?_,C (fun i u=>gv i (by simp[dR,u])) d B⟩;rw[A.2];subst D;exact Rb (gv i (by simp[dR,Slot.XO]) _ E) (zJ S w true) (fun _ _ h=>h)
theorem Arg.agg{YO:Bool}{α:Type}{x:Operand}{l l':List Slot}{e:Wr α}{z:α}(h:cZ σ.g x=some (.agg l))(hl:fc σ YO l l')(hs:J2 l' e z)(ha:e.agg=true):Arg σ YO x (.v e z):=by
 intro ρ S a w K;have A:=K.slot x (by simp) _ h;simp only[Slot.ok] at A ⊢;obtain⟨u,E,F⟩:=A;refine⟨u,(hs _ _ _ u).1 (hl.spec (fun i B C D=>(K.w7 x (by simp) _ h i (by simpa[Slot.XO] using B) C D).1) u F),?_⟩;rw[E];simp[Wr.pk,ha]
inductive M0 (σ:AS) (YO:Bool):List Operand->List Slot->Prop
 |nil:M0 σ YO [] []
 |cons {x:Operand} {s:Slot} {xs:List Operand} {l:List Slot}:Arg σ YO x s->M0 σ YO xs l->M0 σ YO (x::xs) (s::l)
theorem M0.spec{YO:Bool}{xs:List Operand}{l:List Slot}(h:M0 σ YO xs l){ρ S a w}{ys:Array Operand}(Y2:∀x∈xs,x∈ys)(K:j6 σ ys ρ S a w):aX ρ (if YO then fun _=>False else S) w l (xs.map a.eval):=by
 induction h with
 |nil=>rfl
 |cons z _ A=>
  rename_i x s xs l _;simp only[D9,aX];refine⟨_,_,rfl,z ρ S a w ⟨K.low,fun y u s h=>?_,fun y u s h=>?_⟩,A fun y u=>Y2 y (X4 _ u)⟩
  ·have:y=x:=by simpa using u
   subst this;exact K.slot y (Y2 y (by simp)) s h
  ·have:y=x:=by simpa using u
   subst this;exact K.w7 y (Y2 y (by simp)) s h
theorem vI{P:Program}{f:FuncId}{xs:List Operand}{ts:Array TypeId}{a:Act}{w:World}(XB:∀args w,(callFunc f args).run P w= .ok (.enter f args) w):
  (execOp a.eval ⟨d,.call ⟨.value (.func f),xs.toArray,ts⟩,ty,p,af,gd⟩).run P w= .ok (.enter f (xs.map a.eval).toArray) w:=by
 simp[execOp,resolve,Act.eval,Deferred.ofValue,invoke,XB]
theorem fY{f:FuncId}{xs:List Operand}{ts:Array TypeId}{ss:List Slot}{res:Slot}{new:List (Nat×UU)}(k:Nat)(hc:VG F.P f ss res new)(XB:∀args w,(callFunc f args).run F.P w= .ok (.enter f args) w)
  (ha:M0 σ false xs ss) (XP:kO res new=true):
  JO F ⟨d,.call ⟨.value (.func f),xs.toArray,ts⟩,ty,p,af,gd⟩ σ (res.map (·+k)) (Lo (·+k) new):=by
 intro ρ S a w K;refine UX.enter (vI XB) ?_;have:=ha.spec (ys:=(Op.call ⟨.value (.func f),xs.toArray,ts⟩).operands) (by intro x u;simp[Op.operands,Call.operands,u]) K;refine(hc S w _ ρ K.low this).mono ?_;rintro e z ⟨v,rfl,h⟩;exact⟨v,rfl,h.shift k XP⟩
def XH(s:Slot):Prop:=∀ρ S S' w u,s.ok ρ S w u->s.ok ρ S' w u
def XT(new:List (Nat×UU)):Prop:=∀i en,aW new i=some en->∀ρ S S' w u,en.ok ρ S w u->en.ok ρ S' w u
theorem ak.of_eq{σ:AS}{r:Nat->Nat}{ls:List Nat}{s s':Slot}(h:s=s'.map r):ak σ r ls s s':=by subst h;exact .same
theorem XH.v{α:Type}{e:Wr α}[XU e]{x:α}:XH (.v e x):=fun ρ S C w u h=>by
 simp only[Slot.ok] at h ⊢;obtain⟨z,A,B⟩:=h;exact⟨z,XU.flat A,B⟩
theorem XH.ref{i:Nat}:XH (.ref i):=fun ρ S z w u h=>by simpa only[Slot.ok] using h
inductive B1:List Slot->Prop
 |nil:B1 []
 |v {α:Type} {e:Wr α} [XU e] {x:α} {l}:B1 l->B1 (.v e x::l)
 |ref {i:Nat} {l}:B1 l->B1 (.ref i::l)
 |agg {l l':List Slot}:B1 l'->B1 l->B1 (.agg l'::l)
theorem B1.spec{l:List Slot}(h:B1 l):(∀ρ S S' w vs,aX ρ S w l vs->aX ρ S' w l vs)/\(∀ρ S S' w vs,aZ ρ S w l vs->aZ ρ S' w l vs):=by
 induction h with
 |nil=>exact⟨fun _ _ _ _ _ h=>h,fun _ _ _ _ _ h=>h⟩
 |v _ D=>
  refine⟨fun ρ S S' w vs h=>?_,fun ρ S S' w vs h=>?_⟩
  ·simp only[aX] at h ⊢;obtain⟨u,A,B,z,C⟩:=h;exact⟨u,A,B,XH.v ρ S S' w u z,D.1 ρ S S' w _ C⟩
  ·simp only[aZ,Slot.YI] at h ⊢;obtain⟨u,A,B,z,C⟩:=h;exact⟨u,A,B,XU.flat z,D.2 ρ S S' w _ C⟩
 |ref _ D=>
  refine⟨fun ρ S S' w vs h=>?_,fun ρ S S' w vs h=>?_⟩
  ·simp only[aX] at h ⊢;obtain⟨u,A,B,z,C⟩:=h;exact⟨u,A,B,XH.ref ρ S S' w u z,D.1 ρ S S' w _ C⟩
  ·simp only[aZ,Slot.YI] at h ⊢;obtain⟨u,A,B,z,C⟩:=h;exact⟨u,A,B,z,D.2 ρ S S' w _ C⟩
 |agg _ _ G D=>
  refine⟨fun ρ S S' w vs h=>?_,fun ρ S S' w vs h=>?_⟩
  ·simp only[aX,Slot.ok] at h ⊢;obtain⟨u,A,B,⟨E,z,F⟩,C⟩:=h;exact⟨u,A,B,⟨E,z,G.2 ρ S S' w _ F⟩,D.1 ρ S S' w _ C⟩
  ·simp only[aZ,Slot.YI] at h ⊢;obtain⟨u,A,B,z,C⟩:=h;exact z.elim
theorem XH.agg{l:List Slot}(h:B1 l):XH (.agg l):=fun ρ S z w u k=>by
 simp only[Slot.ok] at k ⊢;obtain⟨A,B,C⟩:=k;exact⟨A,B,h.spec.2 ρ S z w _ C⟩
theorem XH.VO{l:List Slot}(h:B1 l):XH (.VO l):=fun ρ S z w u k=>by
 simp only[Slot.ok] at k ⊢;obtain⟨A,B,C⟩:=k;exact⟨A,B,h.spec.1 ρ S z w _ C⟩
theorem XT.nil:XT []:=fun i u h=>by simp[aW] at h
theorem XT.arr{α:Type}{i:Nat}{T:TypeId}{e:Wr α}[XU e]{xs:List α}{r:List (Nat×UU)}(h:XT r):XT ((i,.arr T e xs)::r):=by
 intro j A z;simp only[aW] at z;cases hb:Nat.beq i j with
 |true=>
  rw[hb] at z;simp at z;subst z;intro ρ S S' w u h;rcases h with h |⟨b,B,C,D,E,F,G,H,I⟩
  ·exact .inl h
  ·exact .inr ⟨b,B,C,D,E,F,G,XU.YG H,I⟩
 |false=>rw[hb] at z;exact h j A z
theorem sI{f:FuncId}{xs:List Operand}{ts:Array TypeId}{ss:List Slot}{res:Slot}{new:List (Nat×UU)}(k:Nat)(hc:VG F.P f ss res new)(XB:∀args w,(callFunc f args).run F.P w= .ok (.enter f args) w)
  (ha:M0 σ true xs ss) (XP:kO res new=true) (hf:XH res) (hn:XT new):
  JO F ⟨d,.call ⟨.value (.func f),xs.toArray,ts⟩,ty,p,af,gd⟩ σ (res.map (·+k)) (Lo (·+k) new):=by
 intro ρ S a w K;refine UX.enter (vI XB) ?_;have:=ha.spec (ys:=(Op.call ⟨.value (.func f),xs.toArray,ts⟩).operands) (by intro x B;simp[Op.operands,Call.operands,B]) K;refine(hc (fun _=>False) w _ ρ (fun _ h=>h.elim) this).mono ?_;rintro e G ⟨v,rfl,h⟩;refine⟨v,rfl,WU.shift k XP ?_⟩;obtain⟨ρ',C,D,E,u⟩:=h;exact⟨ρ',C,D,hf _ _ _ _ _ E,⟨fun i z A=>hn i z A _ _ _ _ _ (u.own i z A),u.fresh,u.inj⟩⟩
end
end Go.Sw
namespace Go.Sw
open Go Go.RowKit
def iV(d:Option Tmp)(s:Slot)(g:List (Nat×Slot)):List (Nat×Slot):=match d with | some t=>(t,s)::g | none=>g
def rd:Operand->List Nat
 | .tmp t=>[t]
 |_=>[]
def looks(ops:Array Oper)(o:Oper):List Nat:=
 o.op.operands.toList.flatMap rd++(match o.guard with | some (g,_)=>((ops[g]?).bind (·.dst)).toList | none=>[])
def Lp(o:Oper):List Nat:=o.after.toList.filterMap fun e=>if Region.binds .any e then some e.on else none
def Cs(ops:Array Oper):Bool:=(List.range ops.size).all fun i=>match ops[i]? with | none=>false | some o=>(Lp o).all fun j=>decide (j<i)
section
variable {F:WK}{ops:Array Oper}
def EU(ops:Array Oper)(L:Nat->Bool):Prop:=∀i o,L i=true->ops[i]? =some o->∀j∈Lp o,L j=true
theorem Un.congr{S:Nat->Prop}{ρ:Nat->LV}{d d':List (Nat×UU)}(h:∀l en,aW d l=some en↔aW d' l=some en):Un S ρ d=Un S ρ d':=by
 funext k;refine propext ⟨fun u=>?_,fun u=>?_⟩
 ·rcases u with u |⟨i,en,z,A⟩
  ·exact .inl u
  ·exact .inr ⟨i,en,(h i en).1 z,A⟩
 ·rcases u with u |⟨i,en,z,A⟩
  ·exact .inl u
  ·exact .inr ⟨i,en,(h i en).2 z,A⟩
theorem Core.congr{d d':List (Nat×UU)}{ρ:Nat->LV}{w:World}(h:∀l en,aW d l=some en↔aW d' l=some en)(hc:Core F d ρ w):Core F d' ρ w:=
 ⟨hc.low,hc.size,hc.frame,hc.os,hc.tape,hc.output,fun i en u=>by rw[<-Un.congr h];exact hc.own i en ((h i en).2 u),fun i en b u=>hc.fresh i en b ((h i en).2 u),fun i j en z b u A=>hc.inj i j en z b ((h i en).2 u) ((h j z).2 A),
  fun i en b u=>hc.apart i en b ((h i en).2 u)⟩
theorem Core.below{d:List (Nat×UU)}{ρ:Nat->LV}{w w':World}(hc:Core F d ρ w)(hb:Below w.heap.size w w'):Core F d ρ w'/\Ext (Un F.S0 ρ d) (Un F.S0 ρ d) w w':=by
 have A:Ext (Un F.S0 ρ d) (Un F.S0 ρ d) w w':=rC hb fun _ _ h=>h
 exact⟨⟨hc.low,ai hc.size hb.size,fun k B C=>(hb.block k (O6 B hc.size)).trans (hc.frame k B C),hb.os.trans hc.os,hb.tape.trans hc.tape,hb.output.trans hc.output,
  fun i u h=>UU.UR (hc.own i u h) A (fun _ _=>rfl) (fun b z=>hb.block b (hc.fresh i u b h z).2),fun i u b h z=>⟨(hc.fresh i u b h z).1,O6 (hc.fresh i u b h z).2 hb.size⟩,hc.inj,hc.apart⟩,A⟩
theorem lW{g:List (Nat×Slot)}{t u:Nat}{s:Slot}:lk ((t,s)::g) u=if t=u then some s else lk g u:=by
 simp only[lk];cases hb:Nat.beq t u with
 |true=>have:=o5 hb;subst this;simp
 |false=>
  have:t≠u:=fun e=>by subst e;simp at hb
  simp[this]
theorem BP(m i:Nat)(L:Nat->Bool)(hi:i<m)(hL:L i=false):((List.range m).filter fun q=>q==i || L q).length=((List.range m).filter fun q=>L q).length+1:=by
 induction m with
 |zero=>omega
 |succ m z=>
  rw[List.range_succ,yv,yv,pT,pT];by_cases h:i=m
  ·subst h;have:((List.range i).filter fun q=>q==i || L q)=(List.range i).filter fun q=>L q:=by
    refine List.filter_congr fun q u=>?_;have:=iw.1 u;have:(q==i)=false:=by simp;omega
    simp[this]
   rw[this];simp[hL]
  ·rw[z (by omega)];have:(m==i)=false:=by simp;omega
   simp[aD3,this];split<;>simp<;>omega
end
end Go.Sw
namespace Go.Sw
open Go Go.RowKit
theorem tV{P:Program}{T:TypeId}{ti:TypeInfo}(h:∀w,(typeInfo T).run P w= .ok ti w):P.info? T=some ti:=by
 have:=h default;unfold typeInfo at this;simp only[Sem.run_bind,run_program,Result.andThen_ok] at this;cases hi:P.info? T with
 |none=>rw[hi] at this;simp at this
 |some i=>rw[hi] at this;simp at this;rw[this]
theorem nV{P:Program}{T:TypeId}{de:TypeDesc}(h:∀w,(underlying T).run P w= .ok de w):P.underlying T=some de:=by
 have:=h default;unfold underlying at this;simp only[Sem.run_bind,run_program,Result.andThen_ok] at this;cases hi:P.underlying T with
 |none=>rw[hi] at this;simp at this
 |some i=>rw[hi] at this;simp at this;rw[this]
theorem Kq{P:Program}{T:TypeId}{ti:TypeInfo}{n:Nat}(h:∀w,(typeInfo T).run P w= .ok ti w)(hs:∀w,(sizeOf T).run P w= .ok n w):ti.size=n:=by
 have:=hs default;unfold sizeOf at this;simp only[Sem.run_bind,h,Result.andThen_ok,Sem.run_pure,Result.ok.injEq,and_true] at this;exact this
structure X7 (b:Nat) (w w':World):Prop where
 size:w'.heap.size=w.heap.size
 other:∀k,k≠b->w'.heap[k]? =w.heap[k]?
 os:w'.os=w.os
 tape:w'.tape=w.tape
 output:w'.output=w.output
theorem X7.setRow(w:World)(b:Nat)(cs:Array Value):X7 b w (w.setRow b cs):=⟨by simp[World.setRow],fun k h=>setRow_other w b k cs h,rfl,rfl,rfl⟩
theorem cJ{d:List (Nat×UU)}{t u:Nat}{s:UU}:aW ((t,s)::d) u=if t=u then some s else aW d u:=by
 simp only[aW];cases hb:Nat.beq t u with
 |true=>have:=o5 hb;subst this;simp
 |false=>
  have:t≠u:=fun e=>by subst e;simp at hb
  simp[this]
section
variable {F:WK}{σ:AS}
theorem Core.upd{d:List (Nat×UU)}{ρ:Nat->LV}{w w':World}{i b:Nat}{en en':UU}(hc:Core F d ρ w)(hi:aW d i=some en)(hb:qO (ρ i) b)(hu:X7 b w w')
  (E3:Ext (Un F.S0 ρ d) (Un F.S0 ρ d) w w'->en'.ok ρ (Un F.S0 ρ d) w' (ρ i)):Core F ((i,en')::d) ρ w'/\Ext (Un F.S0 ρ d) (Un F.S0 ρ ((i,en')::d)) w w':=by
 have I:∀k,Un F.S0 ρ ((i,en')::d) k↔Un F.S0 ρ d k:=by
  intro k;constructor
  ·rintro (h |⟨j,e,B,C⟩)
   ·exact .inl h
   ·rw[cJ] at B;split at B
    ·rename_i u;subst u;exact .inr ⟨i,en,hi,C⟩
    ·exact .inr ⟨j,e,B,C⟩
  ·rintro (h |⟨j,e,B,C⟩)
   ·exact .inl h
   ·by_cases u:i=j
    ·subst u;exact .inr ⟨i,en',by rw[cJ,VX rfl],C⟩
    ·exact .inr ⟨j,e,by rw[cJ,VN u];exact B,C⟩
 have O:Un F.S0 ρ d b:= .inr ⟨i,en,hi,hb⟩;have G:Ext (Un F.S0 ρ d) (Un F.S0 ρ d) w w':=⟨by rw[hu.size];exact XZ _,fun k z A=>⟨hu.other k (fun e=>by subst e;exact A O),A⟩⟩;have K:Ext (Un F.S0 ρ d) (Un F.S0 ρ ((i,en')::d)) w w':=⟨G.size,fun k z A=>⟨(G.E2 k z A).1,fun h=>A ((I k).1 h)⟩⟩;have P:Ext (Un F.S0 ρ d) (Un F.S0 ρ ((i,en')::d)) w' w':=⟨XZ _,fun k z A=>⟨rfl,fun h=>A ((I k).1 h)⟩⟩;have L:∀j e,aW ((i,en')::d) j=some e->(j=i/\e=en')\/(j≠i/\aW d j=some e):=by
  intro j e h;rw[cJ] at h;split at h
  ·rename_i u;cases h;exact .inl ⟨u.symm,rfl⟩
  ·rename_i u;exact .inr ⟨fun e=>u e.symm,h⟩
 have E:∀j e,aW ((i,en')::d) j=some e->∃e',aW d j=some e':=fun j e h=>by
  rcases L j e h with⟨rfl,_⟩|⟨_,h⟩
  ·exact⟨en,hi⟩
  ·exact⟨e,h⟩
 refine⟨⟨hc.low,by rw[hu.size];exact hc.size,fun k z M=>?_,hu.os.trans hc.os,hu.tape.trans hc.tape,hu.output.trans hc.output,fun j e h=>?_,fun j e k h H=>?_,fun j N e e' k h D Q R=>?_,fun j e k h H=>?_⟩,K⟩
 ·have:k≠b:=fun e=>by
   subst e;rcases (hc.fresh i en k hi hb).1 with h | h
   ·omega
   ·exact M h
  rw[hu.other k this];exact hc.frame k z M
 ·rcases L j e h with⟨rfl,rfl⟩|⟨U,h⟩
  ·exact UU.UR (E3 G) P (fun _ _=>rfl) (fun _ _=>rfl)
  ·refine UU.UR (hc.own j e h) K (fun _ _=>rfl) (fun k z=>hu.other k fun e'=>U ?_);subst e';exact hc.inj j i e en k h hi z hb
 ·obtain⟨e',D⟩:=E j e h;rw[hu.size];exact hc.fresh j e' k D H
 ·obtain⟨S,B⟩:=E j e h;obtain⟨T,C⟩:=E N e' D;exact hc.inj j N S T k B C Q R
 ·obtain⟨e',D⟩:=E j e h;exact hc.apart j e' k D H
theorem pX{o:Oper}{i:Nat}{en en':UU}(hi:aW σ.d i=some en)(hd:o.dst=none)
  (h:∀(ρ:Nat->LV) (a:Act) (w:World),Core F σ.d ρ w->(∀t s,lk σ.g t=some s->s.ok ρ (Un F.S0 ρ σ.d) w (a.tmps.getD t undef))->∃b w',qO (ρ i) b/\X7 b w w'/\(execOp a.eval o).run F.P w= .ok .skip w'/\
   (Ext (Un F.S0 ρ σ.d) (Un F.S0 ρ σ.d) w w'->en'.ok ρ (Un F.S0 ρ σ.d) w' (ρ i))):JM F o σ ⟨σ.g,(i,en')::σ.d⟩:=by
 rintro a w ⟨⟨ρ,u,z⟩,I,K⟩;obtain⟨b,w',B,C,D,E⟩:=h ρ a w u z;refine UX.skip D ?_;obtain⟨G,H⟩:=u.upd hi B C E;rw[hd];exact⟨⟨ρ,G,fun t s A=>Slot.UR s _ (z t s A) H (fun _ _=>rfl)⟩,I,K⟩
end
end Go.Sw
namespace Go.Sw
open Go Go.RowKit
section
variable {F:WK}{σ:AS}{pb:Option Nat}{s:Slot}{d:Option Tmp}{ty:TypeId}{p:String}{af:Array Edge}{gd:Option (Nat×Bool)}{x y:Operand}
theorem Lq{ρ:Nat->LV}{a:Act}{w:World}(hs:∀t s,lk σ.g t=some s->s.ok ρ (Un F.S0 ρ σ.d) w (a.tmps.getD t undef))(h:cZ σ.g x=some s):s.ok ρ (Un F.S0 ρ σ.d) w (a.eval x):=by
 cases x with
 |tmp t=>exact hs t s h
 |const u=>exact(Li h ρ _ w).1
 |global g=>cases h
 |func f=>cases h
theorem Gk{ρ S w}{s:Slot}{cs:List Value}(h:s.YI ρ S w cs):∀v∈cs,s≠.top->v.oneCell'=true:=by
 intro v u C;cases s<;>simp only[Slot.YI] at h
 case v e z=>exact e.cell h v u
 case ref i=>obtain⟨⟨a,l,c,A⟩|⟨a,A⟩,rfl⟩:=h<;>(simp at u;rw[u,A];rfl)
 case ptr i B=>obtain⟨⟨b,A⟩,rfl⟩:=h;simp at u;rw[u,A];rfl
 case cq i B k n=>obtain⟨⟨b,A⟩,rfl⟩:=h;simp at u;rw[u,A];rfl
 case el i k n B=>obtain⟨⟨b,o,l,c,A⟩,rfl⟩:=h;simp at u;rw[u,A];rfl
 case n9 i B lo n cap=>obtain⟨⟨b,A⟩,rfl⟩:=h;simp at u;rw[u,A];rfl
 case ki i B n cap=>obtain⟨⟨b,o,l,c,A⟩,rfl⟩:=h;simp at u;rw[u,A];rfl
 case sub i B n=>obtain⟨⟨a,l,c,A⟩,D,E,F,G,rfl⟩:=h;simp at u;rw[u,A];cases a<;>rfl
 case XA e z=>obtain⟨b,B,H,rfl,A⟩:=h;simp at u;rw[u];rfl
 case YV g cap=>obtain⟨vs,rfl,A⟩:=h;simp at u;rw[u];rfl
 case top=>exact absurd rfl C
theorem kQ{P:Program}{w:World}{U T:TypeId}{b off n:Nat}{v:Value}{a c e:List Value}(hS:∀w,(sizeOf U).run P w= .ok n w)(hn:v.cells.size=n)(y0:∀u∈v.cells.toList,u.oneCell'=true)
  (hb:w.heap[b]? =some (.cells (a++(c++e)).toArray T (0,0))) (dw:a.length=off) (hc:c.length=n):
  (storeVar U ⟨b,off,none⟩ v).run P w= .ok () (w.setRow b (a++(v.cells.toList++e)).toArray):=by
 unfold storeVar;simp only[Sem.run_bind,hS,Result.andThen_ok,hn,ne_eq,aDi,ZN];have h:v.cells.toList.length=n:=by simpa using hn
 have:=run_storeCells_at P b off T v.cells.toList 0 _ w hb (by simp;omega) y0;simp only[aDf] at this;have z:(a++(c++e)).take off=a:=by rw[<-dw];exact yh
 have A:(a++(c++e)).drop (off+v.cells.toList.length)=e:=by
  rw[<-u9];have:off+v.cells.toList.length=(a++c).length:=by rw[pT,dw,h,hc]
  rw[this];exact og
 rw[z,A] at this;simpa[u9] using this
theorem kR{P:Program}{a:Act}{w w':World}{U:TypeId}{ad:Addr}(h2:a.eval x= .pointer (some ad))(XI:(storeVar U ad (a.eval y)).run P w= .ok () w'):
  (execOp a.eval ⟨d,.store U x y,ty,p,af,gd⟩).run P w= .ok .skip w':=by
 simp only[execOp,h2,Instr.storeAt,Instr.sureAddr,Sem.run_bind,Sem.run_pure,Result.andThen_ok,XI]
theorem Tm{T U:TypeId}{l:List Slot}{i off n:Nat}{s0:Slot}(hx:cZ σ.g x=some (.ptr i off))(he:aW σ.d i=some (.box T l pb))(ho:nJ l off=some s0)(hy:cZ σ.g y=some s)(hp:s.plain=true)(j8:Nat.beq s.sz n=true)(F8:Nat.beq s0.sz n=true)
  (hS:∀w,(sizeOf U).run F.P w= .ok n w):JM F ⟨none,.store U x y,ty,p,af,gd⟩ σ ⟨σ.g,(i,.box T (nU l off s) pb)::σ.d⟩:=by
 replace j8:=o5 j8;replace F8:=o5 F8;refine pX he rfl fun ρ a w z A=>?_;have K:=cI z A (Op.store U x y).operands;obtain⟨b,R,B,I,C,L⟩:=zI K (x:=x) (by simp[Op.operands]) hx he;have h:=qR hp (Lq A hy);obtain⟨M,c,N,rfl,rfl,O,Q⟩:=uP ho L;have D:∀u∈(a.eval y).cells.toList,u.oneCell'=true:=fun u G=>Gk h u G (fun e=>by subst e;cases hp);have E:=kQ (P:=F.P) (w:=w) (U:=U) hS (by have:=nL h;simp only[X6] at this;omega) D C rfl (by rw[nL O];exact F8);refine⟨b,w.setRow b (M++((a.eval y).cells.toList++N)).toArray,.inl (by rw[B];rfl),X7.setRow w b _,?_,fun H=>?_⟩
 ·exact kR I E
 ·refine⟨⟨b,_,B,setRow_heap w b _ _ T _ C,?_⟩,(z.own i _ he).2⟩;exact fN _ _ (Q s _ h) H (fun _ _=>rfl)
theorem bX{α:Type}{e:Wr α}{z:α}{T U:TypeId}{l l':List Slot}{i:Nat}(hx:cZ σ.g x=some (.ptr i 0))(he:aW σ.d i=some (.box T l pb))(hl:Nat.beq (l.map Slot.sz).sum e.n=true)(hy:cZ σ.g y=some (.v e z))(P6:J2 l' e z)
  (hS:∀w,(sizeOf U).run F.P w= .ok e.n w):JM F ⟨none,.store U x y,ty,p,af,gd⟩ σ ⟨σ.g,(i,.box T l' pb)::σ.d⟩:=by
 replace hl:=o5 hl;refine pX he rfl fun ρ a w D E=>?_;have K:=cI D E (Op.store U x y).operands;obtain⟨b,B,G,N,C,A⟩:=zI K (x:=x) (by simp[Op.operands]) hx he;have h:=qR (s:= .v e z) rfl (Lq E hy);simp only[Slot.YI] at h;have H:B.length=e.n:=by
  rw[<-hl];clear hl hS hx he C K
  induction l generalizing B with
  |nil=>simp only[aZ] at A;simp[A]
  |cons t l R=>
   simp only[aZ] at A;obtain⟨c,d,rfl,O,Q⟩:=A;rw[pT,nL O,R d Q];simp
 have I:=kQ (P:=F.P) (w:=w) (U:=U) (a:=[]) (c:=B) (e:=[]) hS (by have:=e.len h;simp only[X6] at this;omega) (fun u L=>e.cell h u L) (by simpa using C) rfl H;refine⟨b,w.setRow b ([]++((a.eval y).cells.toList++[])).toArray,.inl (by rw[G];rfl),X7.setRow w b _,?_,fun M=>?_⟩
 ·exact kR N I
 ·refine⟨⟨b,_,G,setRow_heap w b _ _ T _ C,?_⟩,(D.own i _ he).2⟩;refine fN _ _ ((P6 _ _ _ _).2 ?_) M (fun _ _=>rfl);simpa using h
theorem Jk{T U:TypeId}{l l':List Slot}{i n:Nat}(hx:cZ σ.g x=some (.ptr i 0))(he:aW σ.d i=some (.box T l pb))(hl:(l.map Slot.sz).sum=n)(hy:cZ σ.g y=some (.agg l'))(P6:(l'.map Slot.sz).sum=n)(hnt:l'.all Slot.plain=true)
  (hS:∀w,(sizeOf U).run F.P w= .ok n w):JM F ⟨none,.store U x y,ty,p,af,gd⟩ σ ⟨σ.g,(i,.box T l' pb)::σ.d⟩:=by
 refine pX he rfl fun ρ a w M N=>?_;have K:=cI M N (Op.store U x y).operands;obtain⟨b,z,O,h2,Q,h⟩:=zI K (x:=x) (by simp[Op.operands]) hx he;have I:=Lq N hy;simp only[Slot.ok] at I;obtain⟨R,C,D⟩:=I;have L:∀(l:List Slot) (z:List Value),aZ ρ (Un F.S0 ρ σ.d) w l z->z.length=(l.map Slot.sz).sum:=by
  intro l
  induction l with
  |nil=>intro z h;simp only[aZ] at h;simp[h]
  |cons t l H=>
   intro z h;simp only[aZ] at h;obtain⟨c,d,rfl,E,G⟩:=h;rw[pT,nL E,H d G];simp
 have S:∀(l:List Slot) (z:List Value),l.all Slot.plain=true->aZ ρ (Un F.S0 ρ σ.d) w l z->∀u∈z,u.oneCell'=true:=by
  intro l
  induction l with
  |nil=>intro z _ h;simp only[aZ] at h;simp[h]
  |cons t l H=>
   intro z B h u A;simp only[aZ] at h;obtain⟨c,d,rfl,E,G⟩:=h;simp only[List.all_cons,B9] at B;rcases J6.1 A with A | A
   ·exact Gk E u A (fun e=>by subst e;cases B.1)
   ·exact H d B.2 G u A
 have V:=kQ (P:=F.P) (w:=w) (U:=U) (a:=[]) (c:=z) (e:=[]) (v:=a.eval y) hS (by rw[C];simp[Value.cells,L l' R D,P6]) (by rw[C];simpa[Value.cells] using S l' R hnt D) (by simpa using Q) rfl (by rw[L l z h,hl]);refine⟨b,w.setRow b ([]++((a.eval y).cells.toList++[])).toArray,.inl (by rw[O];rfl),X7.setRow w b _,?_,fun X=>?_⟩
 ·exact kR h2 V
 ·refine⟨⟨b,_,O,setRow_heap w b _ _ T _ Q,?_⟩,(M.own i _ he).2⟩;refine fN _ _ ?_ X (fun _ _=>rfl);rw[C];simpa[Value.cells] using D
theorem OL{xs:Array Operand}{ρ:Nat->LV}{S a w}(K:j6 σ xs ρ S a w)(hm:x∈xs){α:Type}{e:Wr α}{zs:List α}{T:TypeId}{i k off:Nat}(hx:cZ σ.g x=some (.el i k e.n off))(he:aW σ.d i=some (.arr T e zs)):
  ∃b cap pre cs post,(ρ i).v= .slice (some ⟨b,pre.length,none⟩) zs.length cap/\a.eval x= .pointer (some ⟨b,pre.length+(k*e.n+off),none⟩)/\w.heap[b]? =some (.cells (pre++(cs++post)).toArray T (0,0))/\e.YG zs S w cs/\
   zs.length<=cap/\cap*e.n<=cs.length+post.length/\zs.length<=140737488355328:=by
 have h:=K.slot x hm _ hx;simp only[Slot.ok] at h;obtain⟨⟨b,o,l,c,z⟩,B⟩:=h;have:=(K.w7 x hm _ hx i (by simp[Slot.XO]) _ he).1;rw[z] at B;rcases this with⟨_,u⟩|⟨E,cap,pre,cs,post,u,C,D⟩
 ·rw[z] at u;cases u
 ·have A:=z.symm.trans u;simp only[Value.slice.injEq,u6,Addr.mk.injEq,and_true] at A;obtain⟨⟨rfl,rfl⟩,_,_⟩:=A;exact⟨b,cap,pre,cs,post,u,B,C,D⟩
theorem lX{α:Type}{e:Wr α}{zs:List α}{T U E:TypeId}{k:IntKind}{n:Int}{z:α}{i:Nat}(hz:Sw.idx zs n=some z)(hx:cZ σ.g x=some (.ref i))(he:aW σ.d i=some (.arr T e zs))(hy:cZ σ.g y=some (.v (Wr.int k) n))
  (hU:∀w,(underlying U).run F.P w= .ok (.slice E) w) (hE:∀w,(sizeOf E).run F.P w= .ok e.n w):JO F ⟨d,.indexAddr U x y,ty,p,af,gd⟩ σ (.el i n.toNat e.n 0) []:=by
 intro ρ S a w K;obtain⟨B,C,_⟩:=yG K (x:=x) (by simp[Op.operands]) hx he;have A:=(fQ K (x:=y) (by simp[Op.operands]) hy).1;obtain⟨D,G,H⟩:=dO hz;rcases C with⟨rfl,_⟩|⟨b,cap,u,I,L,h,_⟩
 ·simp at G
 refine UX.value (w':=w) (v:= .pointer (some ⟨b,u.length+n.toNat*e.n,none⟩)) ?_ (WU.same (by simp only[Slot.ok];exact⟨⟨b,_,_,_,h⟩,by rw[h];simp[Lh]⟩));have:=Cq (P:=F.P) (w:=w) (b:=b) (off:=u.length) (cap:=cap) (k:=k) hU hE D (by omega:n<(zs.length:Int));simp only[execOp,B,A,h];simp[this]
theorem mB{α β:Type}{e:Wr α}{zs:List α}{z:α}{e':Wr β}{z':β}{T U:TypeId}{i k off:Nat}(hz:zs[k]? =some z)(hx:cZ σ.g x=some (.el i k e.n off))(he:aW σ.d i=some (.arr T e zs))(hp:te e z off e' z')
  (hA:∀w,(isAgg U).run F.P w= .ok e'.agg w) (hS:∀w,(sizeOf U).run F.P w= .ok e'.n w):JO F ⟨d,.load U x,ty,p,af,gd⟩ σ (.v e' z') []:=by
 intro ρ S a w K;obtain⟨b,X,h,cs,C,h1,M,N,O,_⟩:=OL K (x:=x) (by simp[Op.operands]) hx he;obtain⟨u,c,D,rfl,Q,R,_⟩:=qP O hz;obtain⟨A,c2,E,rfl,V,G⟩:=hp S w c R;have H:VD w b (h.length+(k*e.n+off)) c2:=by
  have B:=VD.of_heap N;have I:h++(u++(A++(c2++E)++D)++C)=(h++u++A)++(c2++(E++D++C)):=by simp
  rw[I] at B;have:=B.sub;have L:0+(h++u++A).length=h.length+(k*e.n+off):=by simp only[pT,Q,V];omega
  rw[L] at this;exact this
 refine UX.value (w':=w) (v:=e'.pk c2) ?_ (WU.same (by simp only[Slot.ok];exact⟨c2,G,rfl⟩));have:=Fg (P:=F.P) H G hA hS;simp[execOp,M,Instr.loadAt,Instr.sureAddr,this]
theorem Ap(o':Nat){α:Type}{e:Wr α}{U:TypeId}{fs:Array Field}{n m i k off:Nat}{fl:Field}(hx:cZ σ.g x=some (.el i k e.n off))(hU:∀w,(underlying U).run F.P w= .ok (.struct fs) w)(hf:fs[n]? =some fl)
  (hm:∀w,(sizeOf fl.type).run F.P w= .ok m w) (YD:Nat.beq m 0=false) (ho:Nat.beq (off+fl.offset) o'=true):JO F ⟨d,.fieldAddr U x n,ty,p,af,gd⟩ σ (.el i k e.n o') []:=by
 have ho:=o5 ho;subst ho;intro ρ S a w K;have h:=K.slot x (by simp[Op.operands]) _ hx;simp only[Slot.ok] at h;obtain⟨⟨b,o,l,c,u⟩,z⟩:=h;rw[u] at z;refine UX.value (w':=w) (v:= .pointer (some ⟨b,o+(k*e.n+off)+fl.offset,none⟩)) ?_ (WU.same (by simp only[Slot.ok];exact⟨⟨b,o,l,c,u⟩,by rw[u];simp[Lh];omega⟩));have:=Cp (P:=F.P) (w:=w) (b:=b) (off:=o+(k*e.n+off)) hU hf hm YD;simp only[execOp,z,Lh];simp[this]
theorem uQ{α:Type}{e:Wr α}{zs:List α}{z z':α}{T U:TypeId}{i k:Nat}(hz:zs[k]? =some z)(hx:cZ σ.g x=some (.el i k e.n 0))(he:aW σ.d i=some (.arr T e zs))(hy:cZ σ.g y=some (.v e z'))
  (hS:∀w,(sizeOf U).run F.P w= .ok e.n w):JM F ⟨none,.store U x y,ty,p,af,gd⟩ σ ⟨σ.g,(i,.arr T e (zs.set k z'))::σ.d⟩:=by
 refine pX he rfl fun ρ a w O G=>?_;have K:=cI O G (Op.store U x y).operands;obtain⟨b,S,h,cs,A,H,V,E,X,h5,h6,h7⟩:=OL K (x:=x) (by simp[Op.operands]) hx he;have D:=qR (s:= .v e z') rfl (Lq G hy);simp only[Slot.YI] at D;obtain⟨B,c,C,rfl,hl,I,j0⟩:=qP X hz;have L:h++(B++(c++C)++A)=(h++B)++(c++(C++A)):=by simp
 rw[L] at E;have M:=kQ (P:=F.P) (w:=w) (U:=U) (off:=h.length+(k*e.n+0)) hS (by have:=e.len D;simp only[X6] at this;omega) (fun u Q=>e.cell D u Q) E (by simp[hl]) (e.len I);have N:(h++B)++((a.eval y).cells.toList++(C++A))=h++((B++((a.eval y).cells.toList++C))++A):=by simp
 refine⟨b,w.setRow b ((h++B)++((a.eval y).cells.toList++(C++A))).toArray,.inl (by rw[H];rfl),X7.setRow w b _,?_,fun R=>?_⟩
 ·exact kR V M
 ·refine .inr ⟨b,S,h,B++((a.eval y).cells.toList++C),A,by simpa using H,?_,Wr.VB (j0 z' _ D) R,by simpa using h5,?_,by simpa using h7⟩
  ·rw[<-N];exact setRow_heap w b _ _ T _ E
  ·have:=e.len D;have:=e.len I;simp only[pT] at h6 ⊢;omega
theorem Lr{P:Program}{w:World}{U E:TypeId}{m b off len:Nat}{k:IntKind}{n:Int}(hU:∀w,(underlying U).run P w= .ok (.array len E) w)(hE:∀w,(sizeOf E).run P w= .ok m w)(h0:0<=n)(h1:n<len):
  (Instr.indexAt U (.pointer (some ⟨b,off,none⟩)) (.int k n)).run P w= .ok (.pointer (some ⟨b,off+n.toNat*m,none⟩)) w:=by
 have:Addr.add ⟨b,off,none⟩ (n.toNat*m)=⟨b,off+n.toNat*m,none⟩:=Addr.add_lit _ _ _;simp[Instr.indexAt,asIntOf,hU,Instr.sureAddr,h0,h1,hE,this]
theorem rD{α:Type}{e:Wr α}{zs:List α}{T U E:TypeId}{l:List Slot}{len i off:Nat}{k:IntKind}{n:Int}{z:α}(hz:Sw.idx zs n=some z)(hx:cZ σ.g x=some (.ptr i off))(he:aW σ.d i=some (.box T l pb))(ho:nJ l off=some (.v (Wr.arr len e) zs))
  (hy:cZ σ.g y=some (.v (Wr.int k) n)) (hU:∀w,(underlying U).run F.P w= .ok (.array len E) w) (hE:∀w,(sizeOf E).run F.P w= .ok e.n w):JO F ⟨d,.indexAddr U x y,ty,p,af,gd⟩ σ (.cq i off n.toNat e.n) []:=by
 intro ρ S a w K;obtain⟨b,H,h,B,I,C⟩:=zI K (x:=x) (by simp[Op.operands]) hx he;have A:=(fQ K (x:=y) (by simp[Op.operands]) hy).1;obtain⟨D,L,M⟩:=dO hz;obtain⟨N,c,O,rfl,_,u,_⟩:=uP ho C;simp only[Slot.YI] at u;have G:=u.1;refine UX.value (w':=w) (v:= .pointer (some ⟨b,off+n.toNat*e.n,none⟩)) ?_ (WU.same (by simp only[Slot.ok];exact⟨⟨b,h⟩,by rw[h];rfl⟩));have:=Lr (P:=F.P) (w:=w) (b:=b) (off:=off) (k:=k) hU hE D (by omega:n<(len:Int));simp only[execOp,B,A];simp[this]
theorem NP{xs:Array Operand}{ρ:Nat->LV}{S a w}(K:j6 σ xs ρ S a w)(hm:x∈xs){i off k n:Nat}{T:TypeId}{l:List Slot}(hx:cZ σ.g x=some (.cq i off k n))(he:aW σ.d i=some (.box T l pb)):
  ∃b cs,(ρ i).v= .pointer (some ⟨b,0,none⟩)/\a.eval x= .pointer (some ⟨b,off+k*n,none⟩)/\w.heap[b]? =some (.cells cs.toArray T (0,0))/\aZ ρ S w l cs:=by
 have h:=K.slot x hm _ hx;simp only[Slot.ok] at h;obtain⟨⟨b,u⟩,z⟩:=h;have:=(K.w7 x hm _ hx i (by simp[Slot.XO]) _ he).1;rw[u] at z;obtain⟨⟨A,cs,B,C,D⟩,_⟩:=this;have:A=b:=by rw[u] at B;simpa using B.symm
 subst this;exact⟨A,cs,u,z,C,D⟩
theorem uR{α:Type}{e:Wr α}{zs:List α}{z:α}{T U:TypeId}{l:List Slot}{len i off k:Nat}(hz:zs[k]? =some z)(hx:cZ σ.g x=some (.cq i off k e.n))(he:aW σ.d i=some (.box T l pb))(ho:nJ l off=some (.v (Wr.arr len e) zs))
  (hA:∀w,(isAgg U).run F.P w= .ok e.agg w) (hS:∀w,(sizeOf U).run F.P w= .ok e.n w):JO F ⟨d,.load U x,ty,p,af,gd⟩ σ (.v e z) []:=by
 intro ρ S a w K;obtain⟨b,R,V,L,M,N⟩:=NP K (x:=x) (by simp[Op.operands]) hx he;obtain⟨h,c,B,rfl,O,C,_⟩:=uP ho N;simp only[Slot.YI] at C;obtain⟨u,c',D,rfl,Q,E,_⟩:=qP C.2 hz;have G:VD w b (off+k*e.n) c':=by
  have A:=VD.of_heap M;have H:h++(u++(c'++D)++B)=(h++u)++(c'++(D++B)):=by simp
  rw[H] at A;have:=A.sub;have I:0+(h++u).length=off+k*e.n:=by simp[Q,O]
  rw[I] at this;exact this
 refine UX.value (w':=w) (v:=e.pk c') ?_ (WU.same (by simp only[Slot.ok];exact⟨c',E,rfl⟩));have:=Fg (P:=F.P) G E hA hS;simp[execOp,L,Instr.loadAt,Instr.sureAddr,this]
theorem Ct{α:Type}{e:Wr α}{zs:List α}{z z':α}{T U:TypeId}{l:List Slot}{len i off k:Nat}(hz:zs[k]? =some z)(hx:cZ σ.g x=some (.cq i off k e.n))(he:aW σ.d i=some (.box T l pb))(ho:nJ l off=some (.v (Wr.arr len e) zs))
  (hy:cZ σ.g y=some (.v e z')) (hS:∀w,(sizeOf U).run F.P w= .ok e.n w):JM F ⟨none,.store U x y,ty,p,af,gd⟩ σ ⟨σ.g,(i,.box T (nU l off (.v (Wr.arr len e) (zs.set k z'))) pb)::σ.d⟩:=by
 refine pX he rfl fun ρ a w H I=>?_;have K:=cI H I (Op.store U x y).operands;obtain⟨b,cs,L,V,G,X⟩:=NP K (x:=x) (by simp[Op.operands]) hx he;have D:=qR (s:= .v e z') rfl (Lq I hy);simp only[Slot.YI] at D;obtain⟨B,c,C,rfl,WD,E,h6⟩:=uP ho X;simp only[Slot.YI] at E;obtain⟨aa,E⟩:=E;obtain⟨h,M,A,rfl,hl,L5,j0⟩:=qP E hz;have N:B++(h++(M++A)++C)=(B++h)++(M++(A++C)):=by simp
 rw[N] at G;have O:=kQ (P:=F.P) (w:=w) (U:=U) (off:=off+k*e.n) hS (by have:=e.len D;simp only[X6] at this;omega) (fun u R=>e.cell D u R) G (by simp[hl,WD]) (e.len L5);have Q:(B++h)++((a.eval y).cells.toList++(A++C))=B++((h++((a.eval y).cells.toList++A))++C):=by simp
 refine⟨b,w.setRow b ((B++h)++((a.eval y).cells.toList++(A++C))).toArray,.inl (by rw[L];rfl),X7.setRow w b _,?_,fun S=>?_⟩
 ·exact kR V O
 ·refine⟨⟨b,B++((h++((a.eval y).cells.toList++A))++C),L,?_,?_⟩,(H.own i _ he).2⟩
  ·rw[<-Q];exact setRow_heap w b _ _ T _ G
  ·refine fN _ _ (h6 (.v (Wr.arr len e) (zs.set k z')) (h++((a.eval y).cells.toList++A)) ?_) S (fun _ _=>rfl);simp only[Slot.YI];exact⟨by simpa using aa,j0 z' _ D⟩
end
end Go.Sw
namespace Go.Sw
open Go Go.RowKit
def vU(d:List (Nat×UU))(i:Nat):List (Nat×UU):=match d with
 | []=>[]
 | (j,h)::r=>bif Nat.beq j i then vU r i else (j,h)::vU r i
theorem Kr{i k:Nat}:∀{d:List (Nat×UU)},aW (vU d i) k=if k=i then none else aW d k
 | []=>by simp[vU,aW]
 | (j,A)::r=>by
  have u:=Kr (i:=i) (k:=k) (d:=r);simp only[vU];cases hb:Nat.beq j i with
  |true=>
   have:=o5 hb;subst this;simp only[WR,u,cJ];by_cases h:k=j
   ·simp[h]
   ·have:¬j=k:=fun e=>h e.symm;simp[h,this]
  |false=>
   have z:j≠i:=fun e=>by subst e;simp at hb
   simp only[pF,cJ,u];by_cases h:j=k
   ·subst h;simp[z]
   ·simp[h]
structure ZO (b:Option Nat) (w w':World):Prop where
 size:w.heap.size<=w'.heap.size
 other:∀k,k<w.heap.size->some k≠b->w'.heap[k]? =w.heap[k]?
 os:w'.os=w.os
 tape:w'.tape=w.tape
 output:w'.output=w.output
theorem ZO.setRow(w:World)(b:Nat)(cs:Array Value):ZO (some b) w (w.setRow b cs):=⟨by simp[World.setRow],fun k _ h=>setRow_other w b k cs (fun e=>h (by rw[e])),rfl,rfl,rfl⟩
theorem ZO.refl(b:Option Nat)(w:World):ZO b w w:=⟨XZ _,fun _ _ _=>rfl,rfl,rfl,rfl⟩
theorem ZO.alloc(b:Option Nat)(w:World)(o:Obj):ZO b w (w.drew.alloc o):=⟨by simp,fun k h _=>heap_alloc_old w.drew o k h,rfl,rfl,rfl⟩
section
variable {F:WK}{σ:AS}{s:Slot}{d:Option Tmp}{ty:TypeId}{p:String}{af:Array Edge}{gd:Option (Nat×Bool)}{x y:Operand}
theorem Zf{ρ:Nat->LV}{a:Act}{w w':World}{i j:Nat}{en en':UU}{u:LV}(hc:Core F σ.d ρ w)(hs:∀t s,lk σ.g t=some s->s.ok ρ (Un F.S0 ρ σ.d) w (a.tmps.getD t undef))(hz:a.tmps.size=F.N)(YE:a.defers=F.df)
  (hi:aW σ.d i=some en) (hf:σ.free [(j,en')]=true) (ZC:hO d F.N=true) (hu:ZO (YC (ρ i).v) w w') (hsh:Yx u.v) (p5:en'.XO=[])
  (hb:∀b,qO u b->(qO (ρ i) b\/w.heap.size<=b)/\b<w'.heap.size)
  (E3:∀S' ρ',Ext (Un F.S0 ρ σ.d) S' w w'->en'.ok ρ' S' w' u):St F ⟨iV d (.ref j) σ.g,(j,en')::vU σ.d i⟩ (a.put d u.v) w':=by
 let ρ':Nat->LV:=fun k=>if k=j then u else ρ k
 have H:ρ' j=u:=VX rfl;have E:∀k,k≠j->ρ' k=ρ k:=fun k h=>VN h;have U:=kL hf (i:=j) (en:=en') (by simp[aW]);have L:∀k e,aW ((j,en')::vU σ.d i) k=some e->(k=j/\e=en')\/(k≠j/\k≠i/\aW σ.d k=some e):=by
  intro k e h;rw[cJ] at h;split at h
  ·rename_i z;cases h;exact .inl ⟨z.symm,rfl⟩
  ·rename_i z;rw[Kr] at h;split at h
   ·cases h
   ·rename_i B;exact .inr ⟨fun e=>z e.symm,B,h⟩
 have hU:∀k,k<w.heap.size->Un F.S0 ρ' ((j,en')::vU σ.d i) k->Un F.S0 ρ σ.d k:=by
  rintro k I (h |⟨q,e,z,B⟩)
  ·exact .inl h
  ·rcases L q e z with⟨rfl,rfl⟩|⟨A,D,M⟩
   ·rw[H] at B;rcases (hb k B).1 with h | h
    ·exact .inr ⟨i,en,hi,h⟩
    ·omega
   ·rw[E q A] at B;exact .inr ⟨q,e,M,B⟩
 have S:Ext (Un F.S0 ρ σ.d) (Un F.S0 ρ' ((j,en')::vU σ.d i)) w w':=⟨hu.size,fun k I hn=>⟨hu.other k I (fun e=>hn (.inr ⟨i,en,hi,.inl e.symm⟩)),fun h=>hn (hU k I h)⟩⟩;have ab:∀t s,lk σ.g t=some s->mJ ρ ρ' s.XO:=fun t s h k I=>congrArg LV.v (E k fun e=>by subst e;exact U.1 t s h I);have V:∀k e b,k≠i->aW σ.d k=some e->qO (ρ k) b->¬qO (ρ i) b:=fun k e b h z B A=>h (hc.inj k i e en b z hi B A);refine⟨⟨ρ',⟨hc.low,ai hc.size hu.size,fun k I hr=>?_,hu.os.trans hc.os,hu.tape.trans hc.tape,hu.output.trans hc.output,fun k e h=>?_,fun k e b h C=>?_,fun k O e K b h h' Q P=>?_,fun k e b h C=>?_⟩,?_⟩,by rw[kM,hz],by cases d<;>exact YE⟩
 ·rw[hu.other k (O6 I hc.size) (fun e=>?_)]
  ·exact hc.frame k I hr
  ·rcases (hc.fresh i en k hi (.inl e.symm)).1 with h | h
   ·omega
   ·exact hr h
 ·rcases L k e h with⟨rfl,rfl⟩|⟨z,B,A⟩
  ·rw[H];exact E3 _ _ S
  ·rw[E k z];refine UU.UR (hc.own k e A) S (fun q hq=>congrArg LV.v (E q fun K=>?_)) (fun b C=>hu.other b (hc.fresh k e b A C).2 (fun K=>V k e b B A C (.inl K.symm)));subst K;exact U.2.2 k e A hq
 ·rcases L k e h with⟨rfl,rfl⟩|⟨z,B,A⟩
  ·rw[H] at C;obtain⟨D,M⟩:=hb b C;refine⟨?_,M⟩;rcases D with D | D
   ·exact(hc.fresh i en b hi D).1
   ·exact .inl (ai hc.size D)
  ·rw[E k z] at C;exact⟨(hc.fresh k e b A C).1,O6 (hc.fresh k e b A C).2 hu.size⟩
 ·have X:∀k e,k≠j->k≠i->aW σ.d k=some e->qO (ρ k) b->qO u b->False:=fun k e _ B A D M=>by
   rcases (hb b M).1 with h6 | h6
   ·exact V k e b B A D h6
   ·have:=(hc.fresh k e b A D).2;omega
  rcases L k e h with⟨rfl,rfl⟩|⟨z,B,A⟩
  ·rcases L O K h' with⟨rfl,rfl⟩|⟨R,n7,T⟩
   ·rfl
   ·rw[H] at Q;rw[E O R] at P;exact(X O K R n7 T P Q).elim
  ·rw[E k z] at Q;rcases L O K h' with⟨rfl,rfl⟩|⟨R,n7,T⟩
   ·rw[H] at P;exact(X k e z B A Q P).elim
   ·rw[E O R] at P;exact hc.inj k O e K b A T Q P
 ·rcases L k e h with⟨rfl,rfl⟩|⟨z,B,A⟩
  ·rw[H] at C;rcases (hb b C).1 with D | D
   ·exact hc.apart i en b hi D
   ·intro M;have:=hc.low b M;have:=hc.size;omega
  ·rw[E k z] at C;exact hc.apart k e b A C
 ·intro t s G;have aa:∀t s,lk σ.g t=some s->s.ok ρ' (Un F.S0 ρ' ((j,en')::vU σ.d i)) w' (a.tmps.getD t undef):=fun t s G=>Slot.UR s _ (hs t s G) S (ab t s G);cases d with
  |none=>exact aa t s G
  |some q=>
   simp only[iV] at G;have WJ:q<a.tmps.size:=by rw[hz];exact p8 ZC
   rw[kN a q u.v t WJ];rw[lW] at G;split at G
   ·rename_i z;cases G;rw[VX z];simp only[Slot.ok];exact⟨by rw[H];exact hsh,by rw[H]⟩
   ·rename_i z;rw[VN z];exact aa t s G
def Src(σ:AS)(y:Operand){α:Type}(e:Wr α)(ys:List α):Prop:=∀(ρ:Nat->LV) (S:Nat->Prop) (a:Act) (w:World),j6 σ #[y] ρ S a w->
 ys.length<=140737488355328/\∃ad cap,a.eval y= .slice ad ys.length cap/\(ys=[]\/∃b off ds,ad=some ⟨b,off,none⟩/\VD w b off ds/\e.YG ys S w ds)
theorem Src.sl{α:Type}{e:Wr α}{ys:List α}(h:cZ σ.g y=some (.v (Wr.sl e) ys)):Src σ y e ys:=by
 intro ρ S a w K;have z:=K.slot y (by simp) _ h;simp only[Slot.ok] at z;obtain⟨A,B,C,D,u⟩:=rZ.1 z;refine⟨D.2,A,B,C,?_⟩;rcases u with u |⟨b,E,F,G,_,_,H,I⟩
 ·exact .inl u
 ·exact .inr ⟨b,E,F,G,H,I⟩
def app{α:Type}(xs ys:List α):Option (List α):=if xs.length+ys.length<=4294967296 then some (xs++ys) else none
theorem Tn{α:Type}{xs ys zs:List α}(h:app xs ys=some zs):xs.length+ys.length<=4294967296/\zs=xs++ys:=by
 unfold app at h;split at h
 ·rename_i u;exact⟨u,by cases h;rfl⟩
 ·cases h
theorem tF{P:Program}{w:World}{U E tt:TypeId}{n:Nat}{base ad:Option Addr}{l c cap:Nat}(hU:∀w,(underlying U).run P w= .ok (.slice E) w)(hE:∀w,(sizeOf E).run P w= .ok n w)(hle:l<=cap):
  (Builtin.append_ #[U,U] tt #[.slice base l cap,.slice ad 0 c]).run P w= .ok (.slice base l cap) w:=by
 have h:(Builtin.firstCells n 0 (.slice ad 0 c)).run P w= .ok #[] w:=by
  cases ad<;>simp[Builtin.firstCells,loadCells,loadCellsFrom]
 cases base<;>simp[Builtin.append_,hU,hE,Builtin.lenOf,hle,h,storeCells]
theorem Ev{P:Program}{w:World}{U E tt:TypeId}{n g off l cap m c:Nat}{cur:List Value}{a:Addr}{news:List Value}(hU:∀w,(underlying U).run P w= .ok (.slice E) w)(hE:∀w,(sizeOf E).run P w= .ok n w)
  (hg:w.heap[g]? =some (.cells cur.toArray E (0,0))) (hl:news.length=m*n) (y1:∀j u,news[j]? =some u->w.cell? (a.add j)=some u) (h1:∀u∈news,u.oneCell'=true) (I4:l+m<=cap) (L4:off+l*n+news.length<=cur.length):
  (Builtin.append_ #[U,U] tt #[.slice (some ⟨g,off,none⟩) l cap,.slice (some a) m c]).run P w=
   .ok (.slice (some ⟨g,off,none⟩) (l+m) cap) (w.setRow g (cur.take (off+l*n)++news++cur.drop (off+l*n+news.length)).toArray):=by
 have z:=run_firstCells_some (P:=P) w n m a m c news hl y1;have h:=run_storeCells_at P g (off+l*n) E news 0 cur.toArray w hg (by simpa using L4) h1;simp only[aDf] at h;simp[Builtin.append_,hU,hE,Builtin.lenOf,I4,z,Addr.add_lit,h]
theorem bU{α:Type}{e:Wr α}{xs ys zs:List α}{T U:TypeId}{ti:TypeInfo}{z:Value}{i:Nat}(j:Nat)(ha:app xs ys=some zs)(hx:cZ σ.g x=some (.ref i))(he:aW σ.d i=some (.arr T e xs))(hy:Src σ y e ys)
  (hU:∀w,(underlying U).run F.P w= .ok (.slice T) w) (hI:∀w,(typeInfo T).run F.P w= .ok ti w) (hS:∀w,(sizeOf T).run F.P w= .ok e.n w) (hz:ti.zero=some z) (hzs:z.cells.size=e.n) (P7:Nat.ble ti.bytes 4096=true)
  (hf:σ.free [(j,.arr T e zs)]=true) (hd:hO d F.N=true):
  JM F ⟨d,.call ⟨.builtin .append,#[x,y],#[U,U]⟩,ty,p,af,gd⟩ σ ⟨iV d (.ref j) σ.g,(j,.arr T e zs)::vU σ.d i⟩:=by
 obtain⟨X,rfl⟩:=Tn ha;have P7:=p8 P7;rintro a w ⟨⟨ρ,hc,hs⟩,j8,YE⟩;have K:=cI hc hs (Op.call ⟨.builtin .append,#[x,y],#[U,U]⟩).operands;have wz:ti.size=e.n:=Kq hI hS;obtain⟨h1,A,h3⟩:=yG K (x:=x) (by simp[Op.operands,Call.operands]) hx he;have XN:∀q,q∈#[y]->q∈(Op.call ⟨.builtin .append,#[x,y],#[U,U]⟩).operands:=by
  intro q R;have J5:q=y:=by simpa using R
  subst J5;simp[Op.operands,Call.operands]
 obtain⟨N3,ad,c,h4,h5⟩:=hy ρ _ a w ⟨K.low,fun q R s h=>K.slot q (XN q R) s h,fun q R s h=>K.w7 q (XN q R) s h⟩;have kf:∀v w',(Builtin.append_ #[U,U] ty #[(ρ i).v,.slice ad ys.length c]).run F.P w= .ok v w'->(execOp a.eval ⟨d,.call ⟨.builtin .append,#[x,y],#[U,U]⟩,ty,p,af,gd⟩).run F.P w= .ok (.value v) w':=by
  intro v w' h;simp[execOp,resolve,invoke,builtin,h1,h4,h]
 have fin:∀u w',(Builtin.append_ #[U,U] ty #[(ρ i).v,.slice ad ys.length c]).run F.P w= .ok u w'->ZO (YC (ρ i).v) w w'->Yx u->(∀b,YC u=some b->(YC (ρ i).v=some b\/w.heap.size<=b)/\b<w'.heap.size)->
   (∀C ρ',Ext (Un F.S0 ρ σ.d) C w w'->(UU.arr T e (xs++ys)).ok ρ' C w' (.of u))->
   UX F.P ⟨d,.call ⟨.builtin .append,#[x,y],#[U,U]⟩,ty,p,af,gd⟩ a w fun v w'=>St F ⟨iV d (.ref j) σ.g,(j,.arr T e (xs++ys))::vU σ.d i⟩ (a.put d v) w':=
  fun u w' H hu an hb E3=>UX.value (kf u w' H) (Zf (u:= .of u) hc hs j8 YE he hf hd hu an rfl (fun b h=>⟨(hb b (pC.1 h)).1.imp .inl id,(hb b (pC.1 h)).2⟩) E3)
 rcases h5 with rfl |⟨b,ab,D,rfl,hm,dz⟩
 ·
  rw[V2] at*;rcases A with⟨rfl,A⟩|⟨b,cap,B,cs,G,A,I,L,M,h9⟩
  ·refine fin (.slice none 0 0) w ?_ (ZO.refl _ _) (.inl ⟨_,_,_,rfl⟩) (fun b h=>by simp[YC] at h) (fun _ _ _=> .inl ⟨rfl,rfl⟩);rw[A];exact tF hU hS (XZ _)
  ·refine fin (ρ i).v w ?_ (ZO.refl _ _) (.inl ⟨_,_,_,A⟩) (fun b h=>⟨.inl h,(h3 b (.inl h)).2⟩) (fun C ρ' E=>?_)
   ·rw[A];exact tF hU hS M
   ·exact .inr ⟨b,cap,B,cs,G,A,I,Wr.VB L E,M,h9⟩
 ·have O:=cP dz;have I7:=hm.cell;have y0:=rB dz;have aa:∀(C:Nat->Prop) (w':World) (cs:List Value),Ext (Un F.S0 ρ σ.d) C w w'->e.YG xs (Un F.S0 ρ σ.d) w cs->e.YG (xs++ys) C w' (cs++D):=fun C w' cs E h=>gI (Wr.VB h E) (Wr.VB dz E);have lq:∀q,(Builtin.zeroCells z.cells q).toList.length=q*e.n:=fun q=>by rw[X6,size_zeroCells,hzs]
  by_cases ac:ys.length=0
  ·
   have ae:ys=[]:=eu ac;subst ae;rw[V2] at*;rcases A with⟨rfl,A⟩|⟨V,cap,B,cs,G,A,I,L,M,h9⟩
   ·refine fin (.slice none 0 0) w ?_ (ZO.refl _ _) (.inl ⟨_,_,_,rfl⟩) (fun b h=>by simp[YC] at h) (fun _ _ _=> .inl ⟨rfl,rfl⟩);rw[A];exact tF hU hS (XZ _)
   ·refine fin (ρ i).v w ?_ (ZO.refl _ _) (.inl ⟨_,_,_,A⟩) (fun b h=>⟨.inl h,(h3 b (.inl h)).2⟩) (fun C ρ' E=>?_)
    ·rw[A];exact tF hU hS M
    ·exact .inr ⟨V,cap,B,cs,G,A,I,Wr.VB L E,M,h9⟩
  rcases A with⟨rfl,A⟩|⟨g,cap,B,cs,G,A,I,L,M,h9,O3⟩
  ·
   have H:=run_append_nil (P:=F.P) w U ty T ti z (nV hU) (tV hI) hz ⟨b,ab,none⟩ ys.length c D (by rw[wz];exact O) I7 (by omega) (by simp at X;omega) (by
    have:ys.length*ti.bytes<=4294967296*4096:=aCx (by simp at X;omega) P7
    omega)
   have dy:=grownCap_ge w ys.length 0 T;refine fin _ _ (by rw[A];exact H) (ZO.alloc _ _ _) (.inl ⟨_,_,_,rfl⟩) (fun V h=>?_) (fun C ρ' E=>?_)
   ·simp only[YC,u6] at h;subst h;exact⟨.inr (XZ _),by simp⟩
   ·have im:=aa C _ [] E rfl;simp only[X3] at im ⊢;refine .inr ⟨w.heap.size,_,[],D,(Builtin.zeroCells z.cells (grownCap w ys.length 0 T - ys.length)).toList,rfl,?_,im,dy,?_,by simp at X;omega⟩
    ·rw[show w.heap.size=w.drew.heap.size from rfl,heap_alloc_new];simp
    ·rw[O,lq,<-G9];exact td _ (by omega)
  ·by_cases S:xs.length+ys.length<=cap
   ·
    have Q:=cP L;have L4:B.length+xs.length*e.n+D.length<=(B++(cs++G)).length:=by
     have:(xs.length+ys.length)*e.n<=cap*e.n:=td _ S;rw[G9] at this;simp only[pT];omega
    have H:=Ev (P:=F.P) (w:=w) (tt:=ty) (cap:=cap) (c:=c) hU hS I (by exact O) I7 y0 S L4;have e1:(B++(cs++G)).take (B.length+xs.length*e.n)=B++cs:=by
     rw[<-u9,<-Q,<-pT];exact yh
    have e2:(B++(cs++G)).drop (B.length+xs.length*e.n+D.length)=G.drop D.length:=by
     rw[<-u9,<-Q,<-pT,aD4];simp
    rw[e1,e2] at H;refine fin _ _ (by rw[A];exact H) (by rw[A];exact ZO.setRow w g _) (.inl ⟨_,_,_,rfl⟩) (fun V h=>?_) (fun C ρ' E=>?_)
    ·rw[A];simp only[YC,u6] at h ⊢;subst h;exact⟨.inl rfl,by have:=(VD.of_heap I).lt;simpa[World.setRow] using this⟩
    ·refine .inr ⟨g,cap,B,cs++D,G.drop D.length,by simp[LV.of],?_,aa C _ cs E L,by simpa using S,?_,by simp;omega⟩
     ·have:=setRow_heap w g _ (B++cs++D++G.drop D.length).toArray T _ I;rw[this];simp
     ·have:(xs.length+ys.length)*e.n<=cap*e.n:=td _ S;rw[G9] at this;simp only[pT,O8];omega
   ·
    have Q:=cP L;have am:VD w g B.length cs:=by have:=(VD.of_heap I).sub;simpa using this
    have H:=run_append_grow (P:=F.P) w U ty T ti z (nV hU) (tV hI) hz ⟨g,B.length,none⟩ xs.length cap cs (by rw[wz];exact Q) am.cell ⟨b,ab,none⟩ ys.length c D (by rw[wz];exact O) I7 (by omega) (by omega) (growslice_fits (by omega) (by
     have:(xs.length+ys.length)*ti.bytes<=4294967296*4096:=aCx X P7
     omega))
    have dy:=grownCap_ge w (xs.length+ys.length) cap T;refine fin _ _ (by rw[A];exact H) (ZO.alloc _ _ _) (.inl ⟨_,_,_,rfl⟩) (fun V h=>?_) (fun C ρ' E=>?_)
    ·simp only[YC,u6] at h;subst h;exact⟨.inr (XZ _),by simp⟩
    ·refine .inr ⟨w.heap.size,grownCap w (xs.length+ys.length) cap T,[],cs++D,(Builtin.zeroCells z.cells (grownCap w (xs.length+ys.length) cap T - (xs.length+ys.length))).toList,by simp[LV.of],?_,aa C _ cs E L,by simpa using dy,?_,by simp;omega⟩
     ·rw[show w.heap.size=w.drew.heap.size from rfl,heap_alloc_new];have:cs.toArray++D.toArray++Builtin.zeroCells z.cells (grownCap w (xs.length+ys.length) cap T - (xs.length+ys.length))=
        ([]++((cs++D)++(Builtin.zeroCells z.cells (grownCap w (xs.length+ys.length) cap T - (xs.length+ys.length))).toList)).toArray:=by
       apply Array.ext';simp
      rw[this]
     ·rw[pT,Q,O,lq,<-G9,<-G9];exact td _ (by omega)
end
end Go.Sw
namespace Go.Sw
open Go Go.RowKit
theorem Jl:∀(vs:List Value) (k off:Nat) (cs:Array Value),off+k+vs.length<=cs.size->
  ((vs.zipIdx k).foldl (fun cs (x:Value×Nat)=>cs.setIfInBounds (off+x.2) x.1) cs).toList=cs.toList.take (off+k)++vs++cs.toList.drop (off+k+vs.length)
 | [],k,off,cs,_=>by simp
 |v::vs,k,off,cs,h=>by
  simp only[aCm,O7];rw[Jl vs (k+1) off _ (by simp at h ⊢;omega)];have u:off+k<cs.toList.length:=by simp at h ⊢;omega
  simp only[Array.toList_setIfInBounds];have z:off+(k+1)=off+k+1:=by omega
  rw[z,List.take_set,List.drop_set_of_lt (by omega)];have A:(cs.toList.take (off+k+1)).set (off+k) v=cs.toList.take (off+k)++[v]:=by
   rw[List.take_succ_eq_append_getElem u,List.set_append_right _ _ (by rw[A6];omega)];have:off+k - (cs.toList.take (off+k)).length=0:=by rw[A6];omega
   rw[this];rfl
  rw[A];simp only[B0,u9,List.singleton_append];congr 3;omega
theorem Ds{place:Nat->Option (Nat×Nat)}{cells:Array Value}{i off n:Nat}{v:Value}{rest:List (Nat×Value)}{a c e:List Value}(hp:place i=some (off,n))(hn:v.cells.size=n)(hc:cells.toList=a++(c++e))(ha:a.length=off)(hl:c.length=n):
  Instr.fill place cells ((i,v)::rest)=Instr.fill place (a++(v.cells.toList++e)).toArray rest:=by
 have A:cells.size=a.length+(c.length+e.length):=by rw[<-X6,hc];simp
 have h:¬(v.cells.size≠n || decide (off+v.cells.size>cells.size))=true:=by
  simp only[yi,aC2,not_or];omega
 simp only[Instr.fill,hp];rw[VN h];congr 1;apply Array.ext';have:=Jl v.cells.toList 0 off cells (by simp;omega);simp only[aDf] at this;rw[<-aEf,Array.toList_zipIdx,this,hc];have u:(a++(c++e)).take off=a:=by rw[<-ha];exact yh
 have z:(a++(c++e)).drop (off+v.cells.toList.length)=e:=by
  rw[<-u9];have:off+v.cells.toList.length=(a++c).length:=by simp;omega
  rw[this];exact og
 rw[u,z];simp
section
variable {F:WK}{σ:AS}{s:Slot}{d:Option Tmp}{ty:TypeId}{p:String}{af:Array Edge}{gd:Option (Nat×Bool)}{x y:Operand}
def Rc(l:List Slot)(p q:Nat)(new:List Slot):List Slot:=l.take p++(new++l.drop (p+q))
def EV(l:List Slot):Nat:=(l.map Slot.sz).sum
theorem Ks{ρ:Nat->LV}{S:Nat->Prop}{w:World}:∀{l:List Slot} {cs:List Value},aZ ρ S w l cs->cs.length=EV l:=by
 intro l
 induction l with
 |nil=>intro cs h;simp only[aZ] at h;simp[h,EV]
 |cons t l A=>
  intro cs h;simp only[aZ] at h;obtain⟨c,d,rfl,u,z⟩:=h;rw[pT,nL u,A z];simp[EV]
theorem BR{ρ:Nat->LV}{S:Nat->Prop}{w:World}:∀{l:List Slot} {cs:List Value},l.all Slot.plain=true->aZ ρ S w l cs->∀u∈cs,u.oneCell'=true:=by
 intro l
 induction l with
 |nil=>intro cs _ h;simp only[aZ] at h;simp[h]
 |cons t l D=>
  intro cs A h u z;simp only[aZ] at h;obtain⟨c,d,rfl,B,C⟩:=h;simp only[List.all_cons,B9] at A;rcases J6.1 z with z | z
  ·exact Gk B u z (fun e=>by subst e;cases A.1)
  ·exact D A.2 C u z
theorem Ls{ρ:Nat->LV}{S:Nat->Prop}{w:World}{l new:List Slot}{p q off n:Nat}{cs:List Value}(h1:Nat.beq (EV (l.take p)) off=true)(h2:Nat.beq (EV ((l.drop p).take q)) n=true)(h:aZ ρ S w l cs):
  ∃a c d,cs=a++(c++d)/\a.length=off/\c.length=n/\∀c',aZ ρ S w new c'->aZ ρ S w (Rc l p q new) (a++(c'++d)):=by
 replace h1:=o5 h1;replace h2:=o5 h2;rw[<-V3 p l,xA] at h;obtain⟨a,e,rfl,u,z⟩:=h;rw[<-V3 q (l.drop p),xA,aDx] at z;obtain⟨c,d,rfl,B,C⟩:=z;refine⟨a,c,d,rfl,by rw[Ks u,h1],by rw[Ks B,h2],fun c' A=>?_⟩;unfold Rc;rw[xA];exact⟨a,c'++d,rfl,u,xA.2 ⟨c',d,rfl,A,C⟩⟩
inductive J3 (σ:AS) (pl:Array (Nat×Nat)):List Slot->List (Nat×Operand)->List Slot->Prop
 |nil {l:List Slot}:J3 σ pl l [] l
 |cons {l l':List Slot} {i off n:Nat} {x:Operand} {s s0:Slot} {rest:List (Nat×Operand)}:pl[i]? =some (off,n)->Arg σ false x s->s.plain=true->s.sz=n->nJ l off=some s0->s0.sz=n->J3 σ pl (nU l off s) rest l'->J3 σ pl l ((i,x)::rest) l'
 |agg {l l' new:List Slot} {i off n:Nat} {x:Operand} {rest:List (Nat×Operand)} (p q:Nat):pl[i]? =some (off,n)->cZ σ.g x=some (.agg new)->new.all Slot.plain=true->Nat.beq (EV new) n=true->Nat.beq (EV (l.take p)) off=true->Nat.beq (EV ((l.drop p).take q)) n=true->J3 σ pl (Rc l p q new) rest l'->J3 σ pl l ((i,x)::rest) l'
theorem J3.spec{pl:Array (Nat×Nat)}{l l':List Slot}{ps:List (Nat×Operand)}(h:J3 σ pl l ps l'){ρ S a w}{ys:Array Operand}(Y2:∀x∈ps.map (·.2),x∈ys)(K:j6 σ ys ρ S a w):
  ∀cs:List Value,aZ ρ S w l cs->∃ds:List Value,Instr.fill (pl[·]?) cs.toArray (ps.map fun q=>(q.1,a.eval q.2))=some ds.toArray/\aZ ρ S w l' ds:=by
 induction h with
 |nil=>intro cs h;exact⟨cs,rfl,h⟩
 |cons L M T A N O _ P=>
  rename_i l l' i V n x s s0 X _;intro cs C
  have z:=M ρ S a w ⟨K.low,fun y u s h=>K.slot y (Y2 y (by
   have:y=x:=by simpa using u
   subst this;simp)) s h,fun y u s h=>K.w7 y (Y2 y (by
    have:y=x:=by simpa using u
    subst this;simp)) s h⟩
  simp only[O5,ZN] at z;have B:=qR T z;obtain⟨D,c,E,rfl,F,k1,G⟩:=uP N C;obtain⟨ds,H,I⟩:=P (fun y u=>Y2 y (by simp only[D9,j4];exact .inr u)) _ (G s _ B);refine⟨ds,?_,I⟩;rw[D9,Ds (a:=D) (c:=c) (e:=E) L (by have:=nL B;simp only[X6] at this;rw[this];exact A) (by simp) F (by rw[nL k1];exact O)];exact H
 |agg p q L M T A N O _ P=>
  rename_i l l' aa i V n x X _;intro cs C;replace A:=o5 A;have z:=K.slot x (Y2 x (by simp)) _ M;simp only[Slot.ok] at z;obtain⟨c',Q,R⟩:=z;obtain⟨D,c,E,rfl,F,B,G⟩:=Ls N O C;obtain⟨ds,H,I⟩:=P (fun y u=>Y2 y (by simp only[D9,j4];exact .inr u)) _ (G c' R);refine⟨ds,?_,I⟩;have U:(a.eval x).cells.toList=c':=by rw[Q];simp[Value.cells]
  rw[D9,Ds (a:=D) (c:=c) (e:=E) L (by rw[Q];simp[Value.cells,Ks R,A]) (by simp) F B,U];exact H
theorem bR{T:TypeId}{pl:Array (Nat×Nat)}{zs:List Value}{ps:List (Nat×Operand)}{l l':List Slot}(hB:∀parts,F.P.built T parts=Instr.fill (pl[·]?) zs.toArray parts)(hz:Zr zs l)(hp:J3 σ pl l ps l'):
  JO F ⟨d,.build T ps.toArray,ty,p,af,gd⟩ σ (.agg l') []:=by
 intro ρ S a w K;obtain⟨h,z,A⟩:=hp.spec (ys:=(Op.build T ps.toArray).operands) (by intro x u;simp[Op.operands] at u ⊢;exact u) K zs (hz ρ S w);refine UX.value (w':=w) (v:= .agg h.toArray) ?_ (WU.same (by simp only[Slot.ok];exact⟨h,rfl,A⟩));have:=run_build (P:=F.P) w T (ps.map fun q=>(q.1,a.eval q.2)).toArray h.toArray (by rw[hB];exact z);simp only[execOp,aDa];simp[this]
inductive y4 (σ:AS) {α:Type} (e:Wr α):Nat->List (Nat×Operand)->List α->Prop
 |nil {k:Nat}:y4 σ e k [] []
 |cons {k:Nat} {x:Operand} {z:α} {ps:List (Nat×Operand)} {zs:List α}:Arg σ false x (.v e z)->y4 σ e (k+1) ps zs->y4 σ e k ((k,x)::ps) (z::zs)
theorem y4.spec{α:Type}{e:Wr α}{k:Nat}{ps:List (Nat×Operand)}{zs:List α}(h:y4 σ e k ps zs){ρ S a w}{ys:Array Operand}(Y2:∀x∈ps.map (·.2),x∈ys)(K:j6 σ ys ρ S a w):
  ∀pre rest:List Value,pre.length=k*e.n->rest.length=ps.length*e.n->∃ds:List Value,Instr.fill (fun i=>some (i*e.n,e.n)) (pre++rest).toArray (ps.map fun q=>(q.1,a.eval q.2))=some (pre++ds).toArray/\e.YG zs S w ds:=by
 induction h with
 |nil=>intro pre rest D E;simp at E;subst E;exact⟨[],rfl,rfl⟩
 |cons D _ L=>
  rename_i k x z ps zs _;intro pre rest F G
  have C:=D ρ S a w ⟨K.low,fun y u s h=>K.slot y (Y2 y (by
   have:y=x:=by simpa using u
   subst this;simp)) s h,fun y u s h=>K.w7 y (Y2 y (by
    have:y=x:=by simpa using u
    subst this;simp)) s h⟩
  simp only[O5,ZN] at C;have A:=qR (s:= .v e z) rfl C;simp only[Slot.YI] at A;have B:=e.len A;simp only[B0,G9,oc] at G;obtain⟨ds,H,I⟩:=L (fun y u=>Y2 y (by simp only[D9,j4];exact .inr u)) (pre++(a.eval x).cells.toList) (rest.drop e.n) (by rw[pT,F,B,G9,oc]) (by rw[O8];omega);refine⟨(a.eval x).cells.toList++ds,?_,⟨_,_,rfl,A,I⟩⟩;rw[D9,Ds (a:=pre) (c:=rest.take e.n) (e:=rest.drop e.n) rfl (by simp only[X6] at B;exact B) (by simp) F (by rw[A6];omega)];simpa[u9] using H
theorem KH{P:Program}{w:World}{U E:TypeId}{n len:Nat}{z:Value}{parts:Array (Nat×Value)}{R:List Value->Prop}(hU:∀w,(underlying U).run P w= .ok (.slice E) w)(hS:∀w,(sizeOf E).run P w= .ok n w)(hz:∀w,(zeroValue E).run P w= .ok z w)
  (hle:len*n<=16777216) (hf:∀rest:List Value,rest.length=len*n->∃ds:List Value,Instr.fill (fun i=>some (i*n,n)) rest.toArray parts.toList=some ds.toArray/\R ds):
  ∃ds:List Value,R ds/\(Instr.buildSlice U len parts).run P w= .ok (.slice (some ⟨w.heap.size,0,none⟩) len len) (w.alloc (.cells ds.toArray E)):=by
 have C:¬(16777216<len*n):=by omega
 have D:∀A:Array Value,∃ds:List Value,R ds/\Instr.fill (fun i=>some (i*n,n)) ((Array.range (len*n)).map (A[·% A.size]!)) parts.toList=some ds.toArray:=by
  intro A;obtain⟨ds,B,h⟩:=hf ((Array.range (len*n)).map (A[·% A.size]!)).toList (by simp);exact⟨ds,h,by rw[<-B]⟩
 obtain⟨ds,B,h⟩:=D (if len*n=0 then #[] else z.cells);refine⟨ds,B,?_⟩;unfold Instr.buildSlice;simp only[Sem.run_bind,hU,hS,Result.andThen_ok];rw[VN (by simpa using C)];by_cases u:len*n=0
 ·rw[VX u] at h;simp only[Sem.run_bind,Sem.run_pure,Result.andThen_ok,u,ZH];rw[u] at h;rw[h];simp[newRow]
 ·rw[VN u] at h;simp only[Sem.run_bind,Sem.run_pure,Result.andThen_ok,u,ZN,hz];rw[h];simp[newRow]
theorem Jm(w:World)(ds:List Value)(E:TypeId):VD (w.alloc (.cells ds.toArray E)) w.heap.size 0 ds:=VD.of_heap (T:=E) (fr:=(0,0)) (heap_alloc_new _ _)
theorem Rd{α:Type}{e:Wr α}{U E:TypeId}{len:Nat}{z:Value}{ps:List (Nat×Operand)}{zs:List α}{ρ S a w}(hU:∀w,(underlying U).run F.P w= .ok (.slice E) w)(hS:∀w,(sizeOf E).run F.P w= .ok e.n w)(hz:∀w,(zeroValue E).run F.P w= .ok z w)
  (hle:Nat.ble (len*e.n) 16777216=true) (hl:ps.length=len) (he:y4 σ e 0 ps zs) (K:j6 σ (Op.buildSlice U len ps.toArray).operands ρ S a w):
  ∃ds:List Value,e.YG zs S w ds/\(execOp a.eval ⟨d,.buildSlice U len ps.toArray,ty,p,af,gd⟩).run F.P w= .ok (.value (.slice (some ⟨w.heap.size,0,none⟩) len len)) (w.alloc (.cells ds.toArray E)):=by
 obtain⟨ds,h,u⟩:=KH (P:=F.P) (w:=w) (U:=U) (len:=len) (parts:=(ps.map fun q=>(q.1,a.eval q.2)).toArray) (R:=fun ds=>e.YG zs S w ds) hU hS hz (p8 hle) (fun B C=>by
  obtain⟨ds,h,u⟩:=he.spec (ys:=(Op.buildSlice U len ps.toArray).operands) (by intro x A;simp[Op.operands] at A ⊢;exact A) K [] B (by simp) (by rw[hl];exact C)
  exact⟨ds,by simpa using h,u⟩)
 refine⟨ds,h,?_⟩;simp only[execOp,aDa];simp[u]
theorem dI{α:Type}{e:Wr α}{U E:TypeId}{len:Nat}{z:Value}{ps:List (Nat×Operand)}{zs:List α}(hU:∀w,(underlying U).run F.P w= .ok (.slice E) w)(hS:∀w,(sizeOf E).run F.P w= .ok e.n w)(hz:∀w,(zeroValue E).run F.P w= .ok z w)
  (hle:Nat.ble (len*e.n) 16777216=true) (hl:ps.length=len) (P6:zs.length=len) (hb:Nat.ble len 16777216=true) (he:y4 σ e 0 ps zs):JO F ⟨d,.buildSlice U len ps.toArray,ty,p,af,gd⟩ σ (.v (Wr.sl e) zs) []:=by
 intro ρ S a w K;obtain⟨u,C,D⟩:=Rd (d:=d) (ty:=ty) (p:=p) (af:=af) (gd:=gd) hU hS hz hle hl he K;have A:=kY w (.cells u.toArray E);have B:Ext S (Un S ρ []) w (w.alloc (.cells u.toArray E)):=rC A fun k _ h=>by
  rcases h with h |⟨i,G,h,_⟩
  ·exact h
  ·simp[aW] at h
 refine UX.value D ⟨ρ,fun _ _=>rfl,A,?_,⟨fun _ _ h=>by simp[aW] at h,fun _ _ _ h=>by simp[aW] at h,fun _ _ _ _ _ h=>by simp[aW] at h⟩⟩;simp only[Slot.ok];have hb:=p8 hb;refine rZ.2 ⟨_,len,by rw[P6],⟨by omega,by omega⟩,.inr ⟨w.heap.size,0,u,rfl,by simp,?_,Jm w u E,Wr.VB C B⟩⟩;rintro (h |⟨i,G,h,_⟩)
 ·have:=K.low _ h;omega
 ·simp[aW] at h
theorem sU{α:Type}{e:Wr α}{U E:TypeId}{len:Nat}{z:Value}{ps:List (Nat×Operand)}{zs:List α}(i:Nat)(hU:∀w,(underlying U).run F.P w= .ok (.slice E) w)(hS:∀w,(sizeOf E).run F.P w= .ok e.n w)(hz:∀w,(zeroValue E).run F.P w= .ok z w)
  (hle:Nat.ble (len*e.n) 16777216=true) (hl:ps.length=len) (P6:zs.length=len) (hb:Nat.ble len 16777216=true) (he:y4 σ e 0 ps zs):JO F ⟨d,.buildSlice U len ps.toArray,ty,p,af,gd⟩ σ (.ref i) [(i,.arr E e zs)]:=by
 intro ρ S a w K;obtain⟨B,u,C⟩:=Rd (d:=d) (ty:=ty) (p:=p) (af:=af) (gd:=gd) hU hS hz hle hl he K;have hb:=p8 hb;refine UX.value C (zH (.slice (some ⟨w.heap.size,0,none⟩) len len) (kY _ _) rfl ?_ ?_ ?_)
 ·intro b h;simp only[YC,u6] at h;subst h;exact⟨XZ _,by simp⟩
 ·intro A ρ' h _;refine .inr ⟨w.heap.size,len,[],B,[],by rw[P6];rfl,?_,Wr.VB u (Qx (kY _ _) h),by omega,?_,by omega⟩
  ·rw[heap_alloc_new];simp
  ·have:=cP u;rw[P6] at this;simp[this]
 ·intro A ρ' _ hi _;simp only[Slot.ok];exact⟨by rw[hi];exact .inl ⟨_,_,_,rfl⟩,hi.symm⟩
def mk{α:Type}(n:Int)(z:α):Option (List α):=if 0<=n/\n<=4294967296 then some (List.replicate n.toNat z) else none
theorem Zg{α:Type}{n:Int}{z:α}{zs:List α}(h:mk n z=some zs):0<=n/\n<=4294967296/\zs=List.replicate n.toNat z:=by
 unfold mk at h;split at h
 ·rename_i u;exact⟨u.1,u.2,by cases h;rfl⟩
 ·cases h
theorem EW{α:Type}{e:Wr α}{z:α}{zc:Array Value}(hz:∀S w,e.ok z S w zc.toList)(m:Nat)(S:Nat->Prop)(w:World):e.YG (List.replicate m z) S w (madeCells zc (m*e.n)).toList:=by
 have E:zc.size=e.n:=by have:=e.len (hz S w);simpa using this
 have C:(madeCells zc (m*e.n)).toList=(List.replicate m zc.toList).flatten:=by
  induction m with
  |zero=>simp[madeCells,Array.range_zero']
  |succ m B=>
   rw[List.replicate_succ',List.flatten_append,<-B];apply yl;intro i;simp only[madeCells,Array.toList_map,List.getElem?_append,iy,ix,X6,Array.size_range,Array.getElem?_toList];by_cases D:i<m*e.n
   ·have h:i<(m+1)*e.n:=by rw[G9];omega
    simp[D,h]
   ·rw[VN D];by_cases h:i<(m+1)*e.n
    ·have u:i - m*e.n<zc.size:=by rw[G9,oc] at h;omega
     have A:i % zc.size=i - m*e.n:=by
      have G:zc.size*m=m*e.n:=by rw[E,aEc e.n m]
      have F:i % zc.size=((i - m*e.n)+zc.size*m) % zc.size:=by congr 1;omega
      rw[F,Nat.add_mul_mod_self_left,L7 u]
     simp[h,A,u]
    ·have u:zc.size<=i - m*e.n:=by rw[G9,oc] at h;omega
     have A:(Array.range ((m+1)*e.n))[i]? =none:=by simp;omega
     simp[A,u]
 rw[C];clear C
 induction m with
 |zero=>rfl
 |succ m B=>rw[aDr,aDr,aC1];exact⟨_,_,rfl,hz S w,B⟩
theorem OM{α:Type}{e:Wr α}{z:α}{zs:List α}{U E:TypeId}{ti:TypeInfo}{zv:Value}{k k':IntKind}{n:Int}{ρ S a w}(hm:mk n z=some zs)(hx:cZ σ.g x=some (.v (Wr.int k) n))(hy:cZ σ.g y=some (.v (Wr.int k') n))(hU:∀w,(underlying U).run F.P w= .ok (.slice E) w)
  (hI:∀w,(typeInfo E).run F.P w= .ok ti w) (hS:∀w,(sizeOf E).run F.P w= .ok e.n w) (hz:ti.zero=some zv) (P7:Nat.ble ti.bytes 4096=true) (K:j6 σ (Op.makeSlice U x y).operands ρ S a w):
  (execOp a.eval ⟨d,.makeSlice U x y,ty,p,af,gd⟩).run F.P w= .ok (.value (.slice (some ⟨w.heap.size,0,none⟩) n.toNat n.toNat)) (w.alloc (.cells (madeCells zv.cells (n.toNat*e.n)).toList.toArray E)):=by
 obtain⟨h,A,rfl⟩:=Zg hm;have hx:=(fQ K (x:=x) (by simp[Op.operands]) hx).1;have hy:=(fQ K (x:=y) (by simp[Op.operands]) hy).1;have P7:=p8 P7;have u:=Kq hI hS
 have:=run_make (P:=F.P) w U E ti zv (nV hU) (tV hI) hz k k' n n h (aDm _) (by
  have:(ti.bytes:Int)*n<=4096*4294967296:=Int.mul_le_mul (by omega) A h (by omega)
  omega) (by omega)
 rw[u] at this;simp[execOp,hx,hy,this]
theorem ON{α:Type}{e:Wr α}{z:α}{zs:List α}{U E:TypeId}{ti:TypeInfo}{zv:Value}{k k':IntKind}{n:Int}(i:Nat)(hm:Sw.mk n z=some zs)(hx:cZ σ.g x=some (.v (Wr.int k) n))(hy:cZ σ.g y=some (.v (Wr.int k') n))(hU:∀w,(underlying U).run F.P w= .ok (.slice E) w)
  (hI:∀w,(typeInfo E).run F.P w= .ok ti w) (hS:∀w,(sizeOf E).run F.P w= .ok e.n w) (hz:ti.zero=some zv) (P7:Nat.ble ti.bytes 4096=true) (cr:∀S w,e.ok z S w zv.cells.toList):JO F ⟨d,.makeSlice U x y,ty,p,af,gd⟩ σ (.ref i) [(i,.arr E e zs)]:=by
 intro ρ S a w K;have u:=OM (d:=d) (ty:=ty) (p:=p) (af:=af) (gd:=gd) hm hx hy hU hI hS hz P7 K;obtain⟨B,C,rfl⟩:=Zg hm;refine UX.value u (zH (.slice (some ⟨w.heap.size,0,none⟩) n.toNat n.toNat) (kY _ _) rfl ?_ ?_ ?_)
 ·intro b h;simp only[YC,u6] at h;subst h;exact⟨XZ _,by simp⟩
 ·intro A ρ' h _;refine .inr ⟨w.heap.size,n.toNat,[],(madeCells zv.cells (n.toNat*e.n)).toList,[],by simp[LV.of],?_,EW cr _ _ _,by simp,?_,by simp;omega⟩
  ·rw[heap_alloc_new];simp
  ·simp[size_madeCells]
 ·intro A ρ' _ hi _;simp only[Slot.ok];exact⟨by rw[hi];exact .inl ⟨_,_,_,rfl⟩,hi.symm⟩
end
end Go.Sw
namespace Go.Sw
open Go Go.RowKit
def A7{α:Type}(n:Nat)(P:Program)(T:TypeId)(e:Wr α):Prop:=∀d,n<=d->∀(w:World) (S S':Nat->Prop) (w1 w2:World) (x y:α) (cs ds:List Value),e.ok x S w1 cs->e.ok y S' w2 ds->
 ∃r,(Op.equalIn d T (e.pk cs) (e.pk ds)).run P w= .ok r w/\(r=true↔x=y)
theorem A7.int{P:Program}{T:TypeId}{k k':IntKind}(h:P.underlying T=some (.int k')):A7 1 P T (Wr.int k):=by
 intro d A w S B C D x y E F u z;obtain⟨d,rfl⟩:∃d',d=d'+1:=⟨d - 1,by omega⟩;rw[u.1,z.1];exact⟨x==y,run_equalIn_int w d T k k' x y h,by simp⟩
theorem Fh{α:Type}{P:Program}{e:Wr α}{x:α}{S w w0}{a c b:List Value}{T:TypeId}{off:Nat}(ho:e.ok x S w0 c)(ha:a.length=off)(hA:∀w,(isAgg T).run P w= .ok e.agg w)(hS:∀w,(sizeOf T).run P w= .ok e.n w):
  (part T (a++(c++b)).toArray off).run P w= .ok (e.pk c) w:=by
 have h:=e.len ho;unfold part;simp only[Sem.run_bind,hA,Result.andThen_ok];cases D6:e.agg with
 |true=>
  simp only[ZH,Sem.run_bind,hS,Result.andThen_ok,Sem.run_pure,Wr.pk,D6];congr 2;simp only[List.extract_toArray,List.extract_eq_take_drop];rw[<-ha,og];have:a.length+e.n - a.length=c.length:=by omega
  rw[this,yh]
 |false=>
  rw[e.one D6] at h;obtain⟨v,rfl⟩:=aCh.1 h;have:(a++([v]++b)).toArray[off]? =some v:=by simp[<-ha]
  simp only[O5,ZN,this,Sem.run_pure,Wr.pk,D6];rfl
theorem Pe{α:Type}{n d:Nat}{P:Program}{E:TypeId}{e:Wr α}(hd:n<=d)(he:A7 n P E e)(hA:∀w,(isAgg E).run P w= .ok e.agg w)(hS:∀w,(sizeOf E).run P w= .ok e.n w){S S':Nat->Prop}{w1 w2:World}:
  ∀(xs ys:List α) (k:Nat) (pre I2 cs ds:List Value) (w:World),xs.length=ys.length->pre.length=k*e.n->I2.length=k*e.n->e.YG xs S w1 cs->e.YG ys S' w2 ds->
   ∃r,(Op.eqItems d E e.n (pre++cs).toArray (I2++ds).toArray (List.range' k xs.length)).run P w= .ok r w/\(r=true↔xs=ys)
 | [],ys,k,pre,I2,cs,ds,w,u,_,_,_,_=>by
  have:ys=[]:=eu (by simpa using u.symm);subst this;exact⟨true,by simp[Op.eqItems],by simp⟩
 |x::xs,[],k,pre,I2,cs,ds,w,u,_,_,_,_=>by simp at u
 |x::xs,y::ys,k,pre,I2,cs,ds,w,u,C,D,⟨c,K,L,z,M⟩,⟨q,N,O,A,Q⟩=>by
  subst L;subst O;obtain⟨r,F,B⟩:=he d hd w S S' w1 w2 x y c q z A;obtain⟨G,H,I⟩:=Pe hd he hA hS xs ys (k+1) (pre++c) (I2++q) K N w (by simpa using u) (by rw[pT,C,e.len z,G9,oc]) (by rw[pT,D,e.len A,G9,oc]) M Q;simp only[B0,List.range'_succ,Op.eqItems,Sem.run_bind,Fh (P:=P) (w:=w) z C hA hS,Fh (P:=P) (w:=w) A D hA hS,Result.andThen_ok,F];cases r
  ·refine⟨false,by simp,?_⟩;simp only[O5,false_iff,aEv,not_and];intro h;exact absurd (B.2 h) (by simp)
  ·refine⟨G,by simpa using H,?_⟩;rw[I];simp[B.1 rfl]
theorem A7.arr{α:Type}{n m:Nat}{P:Program}{T E:TypeId}{e:Wr α}(hT:∀w,(underlying T).run P w= .ok (.array m E) w)(hI:∀w,(sizeOf E).run P w= .ok e.n w)(hA:∀w,(isAgg E).run P w= .ok e.agg w)(he:A7 n P E e):A7 (n+1) P T (Wr.arr m e):=by
 intro d H w S I K L x y u z h A;obtain⟨d,rfl⟩:∃d',d=d'+1:=⟨d - 1,by omega⟩;obtain⟨i,B,D⟩:∃i,P.info? E=some i/\i.size=e.n:=by
  have:=hI default;unfold sizeOf typeInfo at this;simp only[Sem.run_bind,run_program,Result.andThen_ok] at this;cases hq:P.info? E with
  |none=>rw[hq] at this;simp at this
  |some i=>rw[hq] at this;simp at this;exact⟨i,rfl,this⟩
 have C:P.cellsOf E=e.n:=by unfold Program.cellsOf;rw[B];exact D
 obtain⟨r,F,G⟩:=Pe (d:=d) (by omega) he hA hI x y 0 [] [] u z w (by rw[h.1,A.1]) (by simp) (by simp) h.2 A.2;refine⟨r,?_,G⟩;have:=run_equalIn_array (w:=w) d u.toArray z.toArray (nV hT) B;simp only[Wr.pk,show (Wr.arr m e).agg=true from rfl,ZH];rw[this,C,List.range_eq_range',<-h.1];simpa using F
def Z0{α:Type}(n:Nat)(P:Program)(fs:List Field)(off:Nat)(e:Wr α):Prop:=∀d,n<=d->∀(w:World) (S S':Nat->Prop) (w1 w2:World) (x y:α) (pre I2 cs ds:List Value),pre.length=off->I2.length=off->e.ok x S w1 cs->e.ok y S' w2 ds->
 ∃r,(Op.eqFields d (pre++cs).toArray (I2++ds).toArray fs).run P w= .ok r w/\(r=true↔x=y)
theorem Z0.last{α:Type}{n off:Nat}{P:Program}{f:Field}{e:Wr α}(hn:f.name≠ "_") (hf:f.offset=off) (he:A7 n P f.type e) (hA:∀w,(isAgg f.type).run P w= .ok e.agg w) (hS:∀w,(sizeOf f.type).run P w= .ok e.n w):Z0 n P [f] off e:=by
 intro d B w S C D E x y F G H I K L z A;obtain⟨r,M,N⟩:=he d B w S C D E x y H I z A;have h:=Fh (P:=P) (w:=w) (a:=F) (b:=[]) z K hA hS;have u:=Fh (P:=P) (w:=w) (a:=G) (b:=[]) A L hA hS;rw[V2] at h u;refine⟨r,?_,N⟩;simp only[Op.eqFields,hn,ne_eq,not_false_eq_true,ZH,Sem.run_bind,hf,h,u,Result.andThen_ok,M];cases r<;>simp
theorem Z0.cons{α β:Type}{n off:Nat}{P:Program}{f:Field}{fs:List Field}{a:Wr α}{b:Wr β}(hn:f.name≠ "_") (hf:f.offset=off) (he:A7 n P f.type a) (hA:∀w,(isAgg f.type).run P w= .ok a.agg w) (hS:∀w,(sizeOf f.type).run P w= .ok a.n w)
  (hr:Z0 n P fs (off+a.n) b):Z0 n P (f::fs) off (Wr.pr a b):=by
 rintro d C w S D E F ⟨x,U⟩ ⟨y,V⟩ G H cs ds I K ⟨c,L,rfl,u,X⟩ ⟨q,M,rfl,z,aa⟩;obtain⟨r,Q,A⟩:=he d C w S D E F x y c q u z;have N:=Fh (P:=P) (w:=w) (a:=G) (b:=L) u I hA hS;have O:=Fh (P:=P) (w:=w) (a:=H) (b:=M) z K hA hS;obtain⟨R,B,T⟩:=hr d C w S D E F U V (G++c) (H++q) L M (by rw[pT,I,a.len u]) (by rw[pT,K,a.len z]) X aa;rw[u9,u9] at B;simp only[Op.eqFields,hn,ne_eq,not_false_eq_true,ZH,Sem.run_bind,hf,N,O,Result.andThen_ok,Q];cases r
 ·refine⟨false,by simp,?_⟩;simp only[O5,false_iff,R0,not_and];intro h;exact absurd (A.2 h) (by simp)
 ·refine⟨R,by simpa using B,?_⟩;rw[T];simp[A.1 rfl]
theorem A7.struct{α:Type}{n:Nat}{P:Program}{T:TypeId}{fs:Array Field}{e:Wr α}(hT:∀w,(underlying T).run P w= .ok (.struct fs) w)(hp:P.stoodInHeld T=false)(ha:e.agg=true)(h:Z0 n P fs.toList 0 e):A7 (n+1) P T e:=by
 intro d I w S B C D x y z A E F;obtain⟨d,rfl⟩:∃d',d=d'+1:=⟨d - 1,by omega⟩;obtain⟨r,G,H⟩:=h d (by omega) w S B C D x y [] [] z A rfl rfl E F;refine⟨r,?_,H⟩;have u:P.fieldsOf T=fs:=by unfold Program.fieldsOf;rw[nV hT]
 have:=run_equalIn_struct (w:=w) d T z.toArray A.toArray (by rw[nV hT,u]) hp;simp only[Wr.pk,ha,ZH];rw[this,u];simpa using G
section
variable {F:WK}{σ:AS}{d:Option Tmp}{ty:TypeId}{p:String}{af:Array Edge}{gd:Option (Nat×Bool)}{x y:Operand}
theorem Zh{α:Type}[DecidableEq α]{n:Nat}{e:Wr α}{o:BinOp}{T T':TypeId}{z z':α}{b:Bool}{ρ S a w}(ho:(o= .eql/\b=decide (z=z'))\/(o= .neq/\b= !decide (z=z')))(he:A7 n F.P T e)(hn:Nat.ble n 10000=true)(ha:e.agg=true)(hg:F.P.eqGuardType F.P.depth T=false)
  (hx:cZ σ.g x=some (.v e z)) (hy:cZ σ.g y=some (.v e z')) (K:j6 σ (Op.binOp o T x y T').operands ρ S a w):(execOp a.eval ⟨d,.binOp o T x y T',ty,p,af,gd⟩).run F.P w= .ok (.value (.bool b)) w:=by
 have u:=K.slot x (by simp[Op.operands]) _ hx;have A:=K.slot y (by simp[Op.operands]) _ hy;simp only[Slot.ok] at u A;obtain⟨H,I,B⟩:=u;obtain⟨L,M,C⟩:=A;obtain⟨r,D,E⟩:=he 10000 (p8 hn) w S S w w z z' H L I M;have G:r=decide (z=z'):=by
  cases r
  ·symm;simp;intro h;exact absurd (E.2 h) (by simp)
  ·symm;simp;exact E.1 rfl
 simp only[Wr.pk,ha,ZH] at B C D;refine BO (r:=r) (by rw[G];exact ho) B C (by intros;simp) (by intros;simp) (by intros;simp) (by intros;simp) ?_ D;exact run_eqGuard_agg (w:=w) o T x y _ _ hg
theorem Re{α:Type}[DecidableEq α]{n:Nat}{e:Wr α}{T T':TypeId}{z z':α}(he:A7 n F.P T e)(hn:Nat.ble n 10000=true)(ha:e.agg=true)(hg:F.P.eqGuardType F.P.depth T=false)
  (hx:cZ σ.g x=some (.v e z)) (hy:cZ σ.g y=some (.v e z')):JO F ⟨d,.binOp .eql T x y T',ty,p,af,gd⟩ σ (.v Wr.bool (decide (z=z'))) []:=
 fun ρ S _ w K=>UX.value (w':=w) (Zh (.inl ⟨rfl,rfl⟩) he hn ha hg hx hy K) (WU.same (pD _ ρ S w))
theorem Rf{α:Type}[DecidableEq α]{n:Nat}{e:Wr α}{T T':TypeId}{z z':α}(he:A7 n F.P T e)(hn:Nat.ble n 10000=true)(ha:e.agg=true)(hg:F.P.eqGuardType F.P.depth T=false)
  (hx:cZ σ.g x=some (.v e z)) (hy:cZ σ.g y=some (.v e z')):JO F ⟨d,.binOp .neq T x y T',ty,p,af,gd⟩ σ (.v Wr.bool (!decide (z=z'))) []:=
 fun ρ S _ w K=>UX.value (w':=w) (Zh (.inr ⟨rfl,rfl⟩) he hn ha hg hx hy K) (WU.same (pD _ ρ S w))
end
end Go.Sw
namespace Go.Sw
open Go Go.RowKit
def fI:Nat:=1125899906842624
inductive Ex (α β:Type) where
 | VP (x:α)
 |ret (r:β)
def lp{α β γ:Type}(step:α->Option (Step α (Ex β γ)))(x:α)(k:β->Option γ):Option γ:=
 match loop step fI x with
 |none=>none
 |some (.VP y)=>k y
 |some (.ret z)=>some z
def jp{β γ:Type}(k:β->Option γ)(body:(β->Option γ)->Option γ):Option γ:=body k
theorem cL{α β γ:Type}{step:α->Option (Step α (Ex β γ))}{x:α}{k:β->Option γ}{r:γ}(h:lp step x k=some r):
  ∃o,loop step fI x=some o/\(∀y,o= .VP y->k y=some r)/\(∀z,o= .ret z->z=r):=by
 unfold lp at h;cases hl:loop step fI x with
 |none=>rw[hl] at h;cases h
 |some o=>
  rw[hl] at h;refine⟨o,rfl,?_,?_⟩
  ·rintro y rfl;exact h
  ·rintro z rfl;exact sM h
theorem fE{β γ:Type}{k:β->Option γ}{body:(β->Option γ)->Option γ}{r:γ}(h:jp k body=some r):∃K,K=k/\body K=some r:=⟨k,rfl,h⟩
theorem iK{α:Type}{c:Bool}{x y:Option α}{r:α}(hc:c=true)(h:(bif c then x else y)=some r):x=some r:=by subst hc;exact h
theorem iL{α:Type}{c:Bool}{x y:Option α}{r:α}(hc:c=false)(h:(bif c then x else y)=some r):y=some r:=by subst hc;exact h
theorem aA{α β:Type}{x:Option α}{f:α->Option β}{r:β}(h:x.bind f=some r):∃a,x=some a/\f a=some r:=Option.bind_eq_some_iff.1 h
def rn:List (Nat×Nat)->Nat->Nat
 | [],i=>i
 | (a,b)::r,i=>bif Nat.beq a i then b else rn r i
section
variable {F:WK}{cs:List Code}{σ σ':AS}{Q:Exit->Act->World->Prop}{α β γ:Type}
theorem vD{c:Tmp}{x y:Code}{b:Bool}(hb:lk σ.g c=some (.v Wr.bool b))(hc:b=true)(ht:W F (x::cs) σ Q):W F (.cond (.tmp c) x y::cs) σ Q:=by
 subst hc;exact Ff hb (fun _=>ht) (fun h=>by cases h)
theorem Aq{c:Tmp}{x y:Code}{b:Bool}(hb:lk σ.g c=some (.v Wr.bool b))(hc:b=false)(ht:W F (y::cs) σ Q):W F (.cond (.tmp c) x y::cs) σ Q:=by
 subst hc;exact Ff hb (fun h=>by cases h) (fun _=>ht)
def LB(F:WK)(id:Nat)(σs:α->AS)(σx:β->AS)(o:Ex β γ)(Q:Exit->Act->World->Prop):Step α (Ex β γ)->Exit->Act->World->Prop
 | .next y,.normal,a,w=>St F (σs y) a w
 | .next _,_,_,_=>False
 | .done (.VP x),.exit i,a,w=>i=id/\(o= .VP x->St F (σx x) a w)
 | .done (.VP _),_,_,_=>False
 | .done (.ret _),.normal,_,_=>False
 | .done (.ret z),.exit i,a,w=>i≠id/\(o= .ret z->Q (.exit i) a w)
 | .done (.ret z),e,a,w=>o= .ret z->Q e a w
theorem jM{id:Nat}{body:Code}{σs:α->AS}{step:α->Option (Step α (Ex β γ))}{x:α}{o:Ex β γ}(σx:β->AS)(hm:Sw.loop step fI x=some o)(h0:Sub F σ (σs x))
  (hk:∀y,o= .VP y->W F cs (σx y) Q) (h:∀y r,step y=some r->W F [body] (σs y) (LB F id σs σx o Q r)):W F (.block id (.loop body)::cs) σ Q:=by
 refine bT (OG (b:=o) hm h0 fun y r B a w C=>?_);refine wpIn_mono (h y r B a w C) ?_;intro e a w u;cases r with
 |next z=>cases e<;>simp only[LB,LQ,Exit.then,run] at u ⊢<;>exact u
 |done b=>
  cases b with
  | VP z=>
   cases e<;>simp only[LB,LQ,Exit.then,run] at u ⊢;intro A;obtain⟨rfl,u⟩:=u;simp only[Exit.inBlock,ZH];exact hk z A.symm a w (u A.symm)
  |ret z=>
   cases e<;>simp only[LB,LQ,Exit.then,run] at u ⊢<;>intro A<;>first
    | (obtain⟨D,u⟩:=u;simp only[Exit.inBlock,VN D];exact u A.symm)
    |exact u A.symm
theorem cF{id:Nat}{σs:α->AS}{σx:β->AS}{o:Ex β γ}{y:α}(h:Sub F σ (σs y)):W F [] σ (LB F id σs σx o Q (.next y)):=fun a w u=>h a w u
theorem dJ{id:Nat}{σs:α->AS}{σx:β->AS}{o:Ex β γ}{y:β}(h:Sub F σ (σx y)):XQ F σ (LB F id σs σx o Q (.done (.VP y))) (.exit id):=fun a w u=>⟨rfl,fun _=>h a w u⟩
theorem hX{id:Nat}{σs:α->AS}{σx:β->AS}{o:Ex β γ}{z:γ}(h:o= .ret z->XQ F σ Q .ret):XQ F σ (LB F id σs σx o Q (.done (.ret z))) .ret:=fun a w u A=>h A a w u
def JQ(F:WK)(σx:β->AS)(P:β->Prop)(Q:Exit->Act->World->Prop):Exit->Act->World->Prop
 | .normal,a,w=>∃x,P x/\St F (σx x) a w
 |e,a,w=>Q e a w
theorem sZ{c:Tmp}{x y:Code}{b:Bool}(σx:β->AS)(P:β->Prop)(hb:lk σ.g c=some (.v Wr.bool b))(hk:∀x,P x->W F cs (σx x) Q)(ht:b=true->W F [x] σ (JQ F σx P Q))(hf:b=false->W F [y] σ (JQ F σx P Q)):W F (.cond (.tmp c) x y::cs) σ Q:=by
 refine Ff hb (fun u a w A=>?_) (fun u a w A=>?_)
 ·refine wpIn_mono (ht u a w A) ?_;intro e a w h;cases e<;>simp only[Exit.then,run,JQ] at h ⊢<;>first | exact h | (obtain⟨z,B,C⟩:=h;exact hk z B a w C)
 ·refine wpIn_mono (hf u a w A) ?_;intro e a w h;cases e<;>simp only[Exit.then,run,JQ] at h ⊢<;>first | exact h | (obtain⟨z,B,C⟩:=h;exact hk z B a w C)
theorem cC{σx:β->AS}{P:β->Prop}{z:β}(hz:P z)(h:Sub F σ (σx z)):W F [] σ (JQ F σx P Q):=fun a w u=>⟨z,hz,h a w u⟩
theorem Gl{σx:β->AS}{P:β->Prop}(h:XQ F σ Q .ret):XQ F σ (JQ F σx P Q) .ret:=h
theorem J.fin{ops:Array Oper}(h:Sub F σ σ'):J F ops [] σ σ':=fun _ _ a w u z=>z a w (h a w u)
end
theorem dP{P:Program}{N:Nat}{S:Nat->Prop}{w:World}:∀k,¬(WK.R ⟨P,N,S,w,fun _=>False,none,[]⟩ k):=fun _ h=>h
end Go.Sw
namespace Go.Sw
open Go Go.RowKit
section
variable {F:WK}{cs:List Code}{σ σ':AS}{Q:Exit->Act->World->Prop}{α β γ:Type}{ops:Array Oper}{os:List Oper}
theorem GK.met{g:List (Nat×Slot)}{o:Oper}{j:Nat}{want:Bool}(t:Tmp){x:Bool}(h:o.guard= .some (j,want))(ht:(ops[j]?).bind (·.dst)= .some t)
  (hx:lk g t= .some (.v Wr.bool x)) (hb:x=want):GK ops g o true:=GK.some t x true h ht hx (by subst hb;simp)
theorem GK.E5{g:List (Nat×Slot)}{o:Oper}{j:Nat}{want:Bool}(t:Tmp){x:Bool}(h:o.guard= .some (j,want))(ht:(ops[j]?).bind (·.dst)= .some t)
  (hx:lk g t= .some (.v Wr.bool x)) (hb:x= !want):GK ops g o false:=GK.some t x false h ht hx (by subst hb;simp)
theorem Kf{c:Code}(h:W F cs σ' Q->W F (c::cs) σ Q)(k:W F cs σ' Q):W F (c::cs) σ Q:=h k
theorem cB{e:Exit}(h:Sub F σ σ')(k:XQ F σ' Q e):XQ F σ Q e:=fun a w u=>k a w (h a w u)
def BQ(F:WK)(id:Nat)(σx:β->AS)(P:β->Prop)(Q:Exit->Act->World->Prop):Exit->Act->World->Prop
 | .normal,a,w=>∃x,P x/\St F (σx x) a w
 | .exit i,a,w=>if i=id then∃x,P x/\St F (σx x) a w else Q (.exit i) a w
 |e,a,w=>Q e a w
theorem SU{id:Nat}{body:Code}(σx:β->AS)(P:β->Prop)(hk:∀x,P x->W F cs (σx x) Q)(h:W F [body] σ (BQ F id σx P Q)):W F (.block id body::cs) σ Q:=by
 refine bT fun a w D=>wpIn_mono (h a w D) ?_;intro e a w u;cases e<;>simp only[Exit.then,run,BQ,Exit.inBlock] at u ⊢<;>first
  |exact u
  | (obtain⟨z,B,C⟩:=u;exact hk z B a w C)
  | (
    split at u
    ·rename_i A;rw[VX A];obtain⟨z,B,C⟩:=u;exact hk z B a w C
    ·rename_i A;rw[VN A];exact u)
theorem KI{id:Nat}{σx:β->AS}{P:β->Prop}{z:β}(hz:P z)(h:Sub F σ (σx z)):W F [] σ (BQ F id σx P Q):=fun a w u=>⟨z,hz,h a w u⟩
theorem KJ{id:Nat}{σx:β->AS}{P:β->Prop}{z:β}(hz:P z)(h:Sub F σ (σx z)):XQ F σ (BQ F id σx P Q) (.exit id):=fun a w u=>by
 simp only[BQ,ZH];exact⟨z,hz,h a w u⟩
end
section
variable {F:WK}{σ:AS}{pb:Option Nat}{s:Slot}{d:Option Tmp}{ty:TypeId}{p:String}{af:Array Edge}{gd:Option (Nat×Bool)}{x y c:Operand}
theorem zK{b:Bool}(hb:b=true)(hc:cZ σ.g c=some (.v Wr.bool b))(hx:cZ σ.g x=some s):JO F ⟨d,.pick c x y,ty,p,af,gd⟩ σ s []:=by subst hb;exact EN hc hx
theorem zL{b:Bool}(hb:b=false)(hc:cZ σ.g c=some (.v Wr.bool b))(hy:cZ σ.g y=some s):JO F ⟨d,.pick c x y,ty,p,af,gd⟩ σ s []:=by subst hb;exact EO hc hy
def NQ(k k':IntKind):Bool:=decide (k'.min<=k.min) && decide (k.max<=k'.max)
theorem Ar{k:IntKind}{n:Int}(h:Co k n):k.wrap n=n:=by
 unfold Co at h;cases k<;>simp[IntKind.min,IntKind.max,IntKind.signed,IntKind.bits] at h<;>simp[IntKind.wrap,IntKind.signed,IntKind.bits]<;>omega
theorem mC{A B:TypeId}{da:TypeDesc}{k k':IntKind}{n:Int}(ha:∀w,(underlying A).run F.P w= .ok da w)(hb:∀w,(underlying B).run F.P w= .ok (.int k') w)(hx:cZ σ.g x=some (.v (Wr.int k) n))(hw:NQ k k'=true):
  JO F ⟨d,.convert A B x,ty,p,af,gd⟩ σ (.v (Wr.int k') n) []:=by
 intro ρ S a w K;have u:=(fQ K (x:=x) (by simp[Op.operands]) hx).2;have h:=Zc (ty:=ty) (p:=p) (d:=d) (af:=af) (gd:=gd) ha hb hx ρ S a w K;have:k'.wrap n=n:=by
  refine Ar ?_;simp[NQ] at hw;unfold Co at*;omega
 rw[this] at h;exact h
def nz(n:Int):Option Unit:=if n=0 then none else some ()
theorem Dt{n:Int}{u:Unit}(h:nz n=some u):n≠0:=by unfold nz at h;split at h<;>simp_all
def nn(n:Int):Option Unit:=if 0<=n then some () else none
theorem Zi{n:Int}{u:Unit}(h:nn n=some u):0<=n:=by unfold nn at h;split at h<;>simp_all
theorem Wx{c:Nat}{ρ:Nat->LV}{a:Act}{w:World}(hc:Core F σ.d ρ w)(hs:∀t s,lk σ.g t=some s->s.ok ρ (Un F.S0 ρ σ.d) w (a.tmps.getD t undef)){i off:Nat}{T:TypeId}{l:List Slot}(hx:lk σ.g c=some (.ptr i off))(he:aW σ.d i=some (.box T l pb)):
  ∃b cs,a.tmps.getD c undef= .pointer (some ⟨b,off,none⟩)/\w.heap[b]? =some (.cells cs.toArray T (0,0))/\aZ ρ (Un F.S0 ρ σ.d) w l cs:=by
 obtain⟨b,cs,_,h,u,z⟩:=zI (x:= .tmp c) (xs:= #[.tmp c]) (cI hc hs #[.tmp c]) (by simp) hx he;exact⟨b,cs,h,u,z⟩
theorem aV{α:Type}{e:Wr α}{z:α}{T U:TypeId}{l:List Slot}{i c:Nat}(hx:lk σ.g c=some (.ptr i 0))(he:aW σ.d i=some (.box T l pb))(hl:J2 l e z)
  (hA:∀w,(isAgg U).run F.P w= .ok e.agg w) (hS:∀w,(sizeOf U).run F.P w= .ok e.n w):RV F σ (.cell c U) (.v e z):=by
 intro ρ a w hc hs;obtain⟨b,h,A,B,C⟩:=Wx hc hs hx he;have u:=(hl ρ _ w h).1 C;refine⟨e.pk h,?_,by simp only[Slot.ok];exact⟨h,u,rfl⟩⟩;have:=Fg (P:=F.P) (VD.of_heap B) u hA hS;simp[wC,A,asAddr,this]
theorem Fi{T U:TypeId}{l:List Slot}{i c n:Nat}(hx:lk σ.g c=some (.ptr i 0))(he:aW σ.d i=some (.box T l pb))(hn:(l.map Slot.sz).sum=n)
  (hA:∀w,(isAgg U).run F.P w= .ok true w) (hS:∀w,(sizeOf U).run F.P w= .ok n w):RV F σ (.cell c U) (.agg l):=by
 intro ρ a w hc hs;obtain⟨b,h,B,z,u⟩:=Wx hc hs hx he;have A:h.length=n:=by
  rw[<-hn];clear hn hS hx he z
  induction l generalizing h with
  |nil=>simp only[aZ] at u;simp[u]
  |cons t l E=>
   simp only[aZ] at u;obtain⟨c,d,rfl,C,D⟩:=u;rw[pT,nL C,E d D];simp
 refine⟨.agg h.toArray,?_,by simp only[Slot.ok];exact⟨h,rfl,u⟩⟩;have:(loadVar U ⟨b,0,none⟩).run F.P w= .ok (.agg h.toArray) w:=by
  unfold loadVar;simp only[Sem.run_bind,hA,Result.andThen_ok,ZH,hS];rw[<-A,run_loadCells_list w _ h (VD.of_heap z).cell];simp
 simp[wC,B,asAddr,this]
theorem dG{T U:TypeId}{l:List Slot}{i c:Nat}(hx:lk σ.g c=some (.ptr i 0))(he:aW σ.d i=some (.box T l pb))(ho:nJ l 0=some s)
  (hA:∀w,(isAgg U).run F.P w= .ok s.ag w) (hS:∀w,(sizeOf U).run F.P w= .ok s.sz w):RV F σ (.cell c U) s:=by
 intro ρ a w hc hs;obtain⟨b,H,B,C,D⟩:=Wx hc hs hx he;obtain⟨E,c',I,rfl,G,z,_⟩:=uP ho D;have h:VD w b E.length c':=by have:=(VD.of_heap C).sub;simpa using this
 have u:=nL z;refine⟨if s.ag then .agg c'.toArray else c'.headD undef,?_,Zd z⟩;have:(loadVar U ⟨b,0,none⟩).run F.P w= .ok (if s.ag then .agg c'.toArray else c'.headD undef) w:=by
  rw[<-G];unfold loadVar;simp only[Sem.run_bind,hA,Result.andThen_ok];cases ha:s.ag with
  |true=>
   simp only[ZH,Sem.run_bind,hS,Result.andThen_ok];rw[<-u,run_loadCells_list w _ c' h.cell];simp
  |false=>
   have A:c'.length=1:=by
    rw[u];cases s<;>simp only[Slot.ag,Slot.sz] at ha ⊢;exact Wr.one _ ha
   obtain⟨v,rfl⟩:=aCh.1 A;have:=h.cell 0 v rfl;simp[Addr.add] at this;simp[this]
 simp[wC,B,asAddr,this]
end
end Go.Sw
namespace Go.Sw
open Go Go.RowKit
def fJ{α β:Type}[DecidableEq α]:List (α×β)->α->Option β
 | [],_=>none
 | (a,b)::m,k=>if a=k then some b else fJ m k
def Gm{α β:Type}[DecidableEq α](m:List (α×β))(k:α)(v:β):Option (List (α×β)):=match fJ m k with | none=>some (m++[(k,v)]) | some _=>none
theorem Pf{α β:Type}[DecidableEq α]{m m':List (α×β)}{k:α}{v:β}(h:Gm m k v=some m'):fJ m k=none/\m'=m++[(k,v)]:=by
 unfold Gm at h;cases hm:fJ m k with
 |none=>rw[hm] at h;exact⟨rfl,by simpa using h.symm⟩
 |some b=>rw[hm] at h;cases h
def l4{α:Type}(n:Nat)(P:Program)(T:TypeId)(e:Wr α):Prop:=∀d,n<=d->∀(em:Bool) (w:World) (S:Nat->Prop) (w1:World) (x:α) (cs:List Value),e.ok x S w1 cs->(Instr.checkKey em d T (e.pk cs)).run P w= .ok () w
theorem l4.int{P:Program}{T:TypeId}{k k':IntKind}(h:∀w,(underlying T).run P w= .ok (.int k') w):l4 1 P T (Wr.int k):=by
 intro d z A w S B x C u;obtain⟨d,rfl⟩:∃d',d=d'+1:=⟨d - 1,by omega⟩;rw[u.1];simp[Instr.checkKey,h,Wr.pk,Wr.int]
theorem Lt{α:Type}{n d:Nat}{P:Program}{E:TypeId}{e:Wr α}{em:Bool}(hd:n<=d)(he:l4 n P E e)(hA:∀w,(isAgg E).run P w= .ok e.agg w)(hS:∀w,(sizeOf E).run P w= .ok e.n w){S:Nat->Prop}{w1:World}:
  ∀(xs:List α) (k:Nat) (pre cs:List Value) (w:World),pre.length=k*e.n->e.YG xs S w1 cs->
   (forIn (List.range' k xs.length) PUnit.unit fun i (_:PUnit)=>do
    let s<-sizeOf E
    let v<-part E (pre++cs).toArray (i*s)
    Instr.checkKey em d E v
    pure (ForInStep.yield PUnit.unit):Sem PUnit).run P w= .ok () w
 | [],k,pre,cs,w,_,_=>by simp
 |x::xs,k,pre,cs,w,z,⟨c,A,C,h,D⟩=>by
  subst C;have u:=Lt (em:=em) hd he hA hS xs (k+1) (pre++c) A w (by rw[pT,z,e.len h,G9,oc]) D;have B:=Fh (P:=P) (w:=w) (b:=A) h z hA hS;rw[u9] at u;simp only[B0,List.range'_succ,List.forIn_cons,Sem.run_bind,hS,Result.andThen_ok,B,he d hd em w S w1 x c h];simpa using u
theorem l4.arr{α:Type}{n m:Nat}{P:Program}{T E:TypeId}{e:Wr α}(hT:∀w,(underlying T).run P w= .ok (.array m E) w)(hS:∀w,(sizeOf E).run P w= .ok e.n w)(hA:∀w,(isAgg E).run P w= .ok e.agg w)(he:l4 n P E e):l4 (n+1) P T (Wr.arr m e):=by
 intro d A em w S B x z u;obtain⟨d,rfl⟩:∃d',d=d'+1:=⟨d - 1,by omega⟩;have h:=Lt (em:=em) (d:=d) (by omega) he hA hS x 0 [] z w (by simp) u.2;rw[u.1] at h;simp only[Instr.checkKey,Sem.run_bind,hT,Result.andThen_ok,Wr.pk,Wr.arr,ZH];simp[Std.Legacy.Range.forIn_eq_forIn_range',Std.Legacy.Range.size] at h ⊢;rw[h];rfl
theorem Zj{α β:Type}[DecidableEq α]{n:Nat}{P:Program}{T:TypeId}{e:Wr α}{f:Wr β}(hn:n<=10000)(he:A7 n P T e){S S':Nat->Prop}{w1 w2:World}{k:α}{cs:List Value}(hk:e.ok k S' w2 cs)(w:World):
  ∀(m:List (α×β)) (es:List MapEntry) (i:Nat),Wq e f S w1 m es->∃r,(Instr.findAsking T (e.pk cs) es i).run P w= .ok r w/\(fJ m k=none->r=none)/\(∀b,fJ m k=some b->∃j v,r=some (j,v)/\f.val b S w1 v)
 | [],[],i,_=>⟨none,by simp[Instr.findAsking],fun _=>rfl,fun b h=>by simp[fJ] at h⟩
 | (a,b)::m,x::xs,i,⟨⟨G,H,I⟩,K,L⟩=>by
  obtain⟨r,B,C⟩:=he 10000 hn w S' S w2 w1 k a cs G hk H;rw[<-I] at B;have z:(Op.equal T (e.pk cs) x.key).run P w= .ok r w:=B;cases r with
  |true=>
   have u:=C.1 rfl;refine⟨some (i,x.val),by simp[Instr.findAsking,z],fun h=>?_,fun A h=>?_⟩
   ·simp[fJ,u] at h
   ·simp[fJ,u] at h;subst h;exact⟨i,x.val,rfl,K⟩
  |false=>
   have u:¬a=k:=fun h=>by have:=C.2 h.symm;cases this
   obtain⟨r,D,E,F⟩:=Zj hn he hk w m xs (i+1) L;refine⟨r,by simp[Instr.findAsking,z,D],fun h=>?_,fun A h=>?_⟩
   ·simp[fJ,u] at h;exact E h
   ·simp[fJ,u] at h;exact F A h
 | [],_::_,_,h=>h.elim
 |_::_,[],_,h=>h.elim
theorem Ij{α β:Type}[DecidableEq α]{n l:Nat}{E:TypeId}{P:Program}{T:TypeId}{e:Wr α}{f:Wr β}(hn:n<=10000)(hT:∀w,(underlying T).run P w= .ok (.array l E) w)(he:A7 n P T e){S S':Nat->Prop}{w1 w2:World}{k:α}{cs:List Value}(hk:e.ok k S' w2 cs)(w:World)
  (m:List (α×β)) (es:List MapEntry) (h:Wq e f S w1 m es):∃r,(Instr.findKey T (e.pk cs) es).run P w= .ok r w/\(fJ m k=none->r=none)/\(∀b,fJ m k=some b->∃j v,r=some (j,v)/\f.val b S w1 v):=by
 match m,es,h with
 | [],[],_=>exact⟨none,by simp[Instr.findKey,hT,Instr.findNow],fun _=>rfl,fun b h=>by simp[fJ] at h⟩
 |q::m,x::xs,h=>
  obtain⟨r,u,z⟩:=Zj hn he hk w (q::m) (x::xs) 0 h;refine⟨r,?_,z⟩;simp[Instr.findKey,hT,Instr.findNow,Instr.sameNow,u]
section
variable {F:WK}{σ:AS}{d:Option Tmp}{ty:TypeId}{p:String}{af:Array Edge}{gd:Option (Nat×Bool)}{x y z:Operand}
theorem Fj{α β:Type}{T:TypeId}(i:Nat)(e:Wr α)(f:Wr β):JO F ⟨d,.makeMap T none,ty,p,af,gd⟩ σ (.ref i) [(i,.mp e f [])]:=by
 intro ρ S a w K;refine UX.value (w':=w.alloc (.map #[] 0)) (v:= .map (some w.heap.size)) (by simp[execOp,Instr.makeMap]) ?_;refine zH (.map (some w.heap.size)) (kY _ _) rfl ?_ ?_ ?_
 ·intro b u;simp[YC] at u;subst u;exact⟨XZ _,by simp⟩
 ·intro z ρ' h _;exact⟨_,#[],0,rfl,heap_alloc_new _ _,trivial⟩
 ·intro z ρ' _ hi _;simp only[Slot.ok];exact⟨by rw[hi];exact .inr ⟨_,rfl⟩,hi.symm⟩
theorem BS{α β:Type}[DecidableEq α]{n n' l:Nat}{M KT VT E:TypeId}{e:Wr α}{f:Wr β}{m:List (α×β)}{i:Nat}{k:α}{u:β}{zv:Value}(hx:cZ σ.g x=some (.ref i))(hd:aW σ.d i=some (.mp e f m))(hy:cZ σ.g y=some (.v e k))
  (hM:∀w,(underlying M).run F.P w= .ok (.map KT VT) w) (hT:∀w,(underlying KT).run F.P w= .ok (.array l E) w) (he:A7 n F.P KT e) (hn:Nat.ble n 10000=true) (hk:l4 n' F.P KT e) (H2:Nat.ble n' 10000=true)
  (hz:∀w,(zeroValue VT).run F.P w= .ok zv w) (cr:∀S w,f.val u S w zv):JO F ⟨d,.lookup M x y false,ty,p,af,gd⟩ σ (.v f ((fJ m k).getD u)) []:=by
 intro ρ S a w K;obtain⟨B,I,_⟩:=yG K (x:=x) (by simp[Op.operands]) hx hd;obtain⟨b,C,V,D,L,N⟩:=I;have h:=K.slot y (by simp[Op.operands]) _ hy;simp only[Slot.ok] at h;obtain⟨O,h,G⟩:=h;obtain⟨r,H,Q,R⟩:=Ij (p8 hn) hT he h w m C.toList N;have z:=hk 10000 (p8 H2) C.isEmpty w S w k O h;have A:=MapKept.run_getObj_map (P:=F.P) L;cases hm:fJ m k with
 |none=>
  have:=Q hm;subst this;refine UX.value (w':=w) (v:=zv) ?_ (WU.same (by simp only[Slot.ok];exact cr _ _));simp[execOp,B,D,G,Instr.lookup,hM,A,z,H,hz]
 |some U=>
  obtain⟨j,v,rfl,T⟩:=R U hm;refine UX.value (w':=w) (v:=v) ?_ (WU.same (by simp only[Slot.ok];exact T));simp[execOp,B,D,G,Instr.lookup,hM,A,z,H]
theorem Lu{α β:Type}{e:Wr α}{f:Wr β}{S:Nat->Prop}{w:World}{k:α}{v:β}{x:MapEntry}(h1:e.val k S w x.key)(h2:f.val v S w x.val):∀{m:List (α×β)} {xs:List MapEntry},Wq e f S w m xs->Wq e f S w (m++[(k,v)]) (xs++[x])
 | [],[],_=>⟨h1,h2,trivial⟩
 | (_,_)::_,_::_,⟨u,z,A⟩=>⟨u,z,Lu h1 h2 A⟩
 | [],_::_,h=>h.elim
 |_::_,[],h=>h.elim
theorem BT{α β:Type}[DecidableEq α]{n n' l:Nat}{M KT VT E:TypeId}{e:Wr α}{f:Wr β}{m m':List (α×β)}{i:Nat}{k:α}{v:β}(hm:Gm m k v=some m')(hx:cZ σ.g x=some (.ref i))(hd:aW σ.d i=some (.mp e f m))(hy:cZ σ.g y=some (.v e k))(hz:cZ σ.g z=some (.v f v))
  (hM:∀w,(underlying M).run F.P w= .ok (.map KT VT) w) (hT:∀w,(underlying KT).run F.P w= .ok (.array l E) w) (he:A7 n F.P KT e) (hn:Nat.ble n 10000=true) (hk:l4 n' F.P KT e) (H2:Nat.ble n' 10000=true):
  JM F ⟨none,.mapUpdate M x y z,ty,p,af,gd⟩ σ ⟨σ.g,(i,.mp e f m')::σ.d⟩:=by
 obtain⟨U,rfl⟩:=Pf hm;refine pX hd rfl fun ρ a w S T=>?_;have K:=cI S T (Op.mapUpdate M x y z).operands;obtain⟨V,X,_⟩:=yG K (x:=x) (by simp[Op.operands]) hx hd;obtain⟨b,B,u,C,D,I⟩:=X;have h:=K.slot y (by simp[Op.operands]) _ hy;have G:=K.slot z (by simp[Op.operands]) _ hz;simp only[Slot.ok] at h G;have L:=h;obtain⟨cs,h,ue⟩:=h;obtain⟨r,h8,h9,_⟩:=Ij (p8 hn) hT he h w m B.toList I;have N:=h9 U;subst N;have O:=hk 10000 (p8 H2) false w _ w k cs h;have Q:=MapKept.run_getObj_map (P:=F.P) D;have R:=fun o=>MapKept.run_setObj_map (P:=F.P) o D;have H:=MapKept.heap_set (o':= .map (B.push { key:=a.eval y,val:=a.eval z,born:=u }) (u+1)) D;refine⟨b,{ w with heap:=w.heap.setIfInBounds b (.map (B.push { key:=a.eval y,val:=a.eval z,born:=u }) (u+1)) },.inl (by rw[C];rfl),⟨by simp,H.2,rfl,rfl,rfl⟩,?_,fun A=>?_⟩
 ·simp[execOp,V,C,ue,Instr.mapUpdate,hM,Q,O,h8,R]
 ·refine⟨b,_,_,C,H.1,?_⟩;rw[aDj];exact Lu (gN L A) (gN G A) (zE A I)
end
end Go.Sw
namespace Go.Sw
open Go Go.RowKit
theorem A7.up{α:Type}{n:Nat}{P:Program}{T:TypeId}{e:Wr α}(m:Nat)(h:A7 n P T e)(hle:Nat.ble n m=true):A7 m P T e:=
 fun d u=>h d (ai (p8 hle) u)
inductive L8 (P:Program):List Field->List (Nat×Nat)->Prop
 |nil:L8 P [] []
 |cons {f:Field} {fs:List Field} {n off:Nat} {l:List (Nat×Nat)}:f.offset=off->P.cellsOf f.type=n->(P.info? f.type).isSome=true->L8 P fs l->L8 P (f::fs) ((off,n)::l)
theorem L8.mapM{P:Program}{fs:List Field}{l:List (Nat×Nat)}(h:L8 P fs l):(fs.mapM fun f=>(P.info? f.type).map fun i=>(f.offset,i.size))=some l:=by
 induction h with
 |nil=>rfl
 |cons A u z _ B=>
  rename_i f fs n C l _;rw[aCw,B];unfold Program.cellsOf at u;cases hi:P.info? f.type with
  |none=>rw[hi] at z;cases z
  |some i=>rw[hi] at u;simp at u;simp[A,u]
theorem dC{P:Program}{T:TypeId}{ti:TypeInfo}{fs:Array Field}{l:List (Nat×Nat)}{z:Value}{zs:List Value}(hI:∀w,(typeInfo T).run P w= .ok ti w)(hU:∀w,(underlying T).run P w= .ok (.struct fs) w)(hz:ti.zero=some z)(hc:z.cells=zs.toArray)
  (hp:L8 P fs.toList l):∀parts,P.built T parts=Instr.fill (l.toArray[·]?) zs.toArray parts:=by
 intro parts;unfold Program.built;rw[tV hI,nV hU];simp only[hz,hp.mapM,hc]
theorem Wy{P:Program}{T:TypeId}{ti:TypeInfo}{de:TypeDesc}{z:Value}(hI:∀w,(typeInfo T).run P w= .ok ti w)(hU:∀w,(underlying T).run P w= .ok de w)(hz:ti.zero=some z)(hd:(∃n E iE,de= .array n E/\P.info? E=some iE)):P.built T []=some z.cells:=by
 obtain⟨n,E,iE,rfl,h⟩:=hd;unfold Program.built;rw[tV hI,nV hU];simp only[hz,h];rfl
section
variable {F:WK}{σ:AS}{pb:Option Nat}{s:Slot}{d:Option Tmp}{ty:TypeId}{p:String}{af:Array Edge}{gd:Option (Nat×Bool)}{x y z:Operand}
theorem eJ{α:Type}{e:Wr α}{v:α}{T E:TypeId}{n:Nat}{ti tE:TypeInfo}{cs:List Value}(hI:∀w,(typeInfo T).run F.P w= .ok ti w)(hU:∀w,(underlying T).run F.P w= .ok (.array n E) w)(hE:∀w,(typeInfo E).run F.P w= .ok tE w)(hz:ti.zero=some (.agg cs.toArray))(ha:e.agg=true)(hv:∀S w,e.ok v S w cs):
  JO F ⟨d,.build T #[],ty,p,af,gd⟩ σ (.v e v) []:=by
 intro ρ S a w K;have h:=Wy hI hU hz ⟨n,E,tE,rfl,tV hE⟩;refine UX.value (w':=w) (v:= .agg cs.toArray) ?_ (WU.same (by simp only[Slot.ok];exact⟨cs,hv _ _,by simp[Wr.pk,ha]⟩));have:=run_build (P:=F.P) w T #[] cs.toArray (by simpa[Value.cells] using h);simp only[execOp,aDa];simp[this]
def sub{α:Type}(xs:List α)(lo hi:Int):Option (List α):=if 0<=lo/\lo<=hi/\hi<=xs.length then some ((xs.take hi.toNat).drop lo.toNat) else none
theorem gR{α:Type}{xs ys:List α}{lo hi:Int}(h:sub xs lo hi=some ys):0<=lo/\lo<=hi/\hi<=xs.length/\ys=(xs.take hi.toNat).drop lo.toNat:=by
 unfold sub at h;split at h
 ·rename_i u;cases h;exact⟨u.1,u.2.1,u.2.2,rfl⟩
 ·cases h
theorem vJ{α:Type}{e:Wr α}{S w}:∀{xs:List α} {cs:List Value} (n:Nat),e.YG xs S w cs->e.YG (xs.drop n) S w (cs.drop (n*e.n))
 |xs,cs,0,h=>by simpa using h
 | [],cs,n+1,h=>by
  have:cs=[]:=h;subst this;simpa using h
 |x::xs,cs,n+1,⟨c,d,A,B,C⟩=>by
  subst A;have:=vJ n C;have u:=e.len B;rw[Nat.succ_mul,aDe (n*e.n),<-u,aD4,u];have z:c.drop (e.n+n*e.n)=[]:=aDy (by omega);rw[z];simpa using this
theorem sJ{α:Type}{e:Wr α}{S w}:∀{xs:List α} {cs:List Value} (n:Nat),e.YG xs S w cs->e.YG (xs.take n) S w (cs.take (n*e.n))
 |xs,cs,0,h=>by simp;rfl
 | [],cs,n+1,h=>by
  have:cs=[]:=h;subst this;simpa using h
 |x::xs,cs,n+1,⟨c,d,B,z,C⟩=>by
  subst B;have:=sJ n C;have u:=e.len z;refine⟨c,d.take (n*e.n),?_,z,this⟩;rw[Nat.succ_mul,aDe (n*e.n),<-u,List.take_append,u];have A:c.take (e.n+n*e.n)=c:=aCb (by omega);rw[A];simp
theorem VD.drop{w:World}{b off:Nat}{ds:List Value}(n:Nat)(h:VD w b off ds):VD w b (off+n) (ds.drop n):=by
 obtain⟨c,T,z,A,B⟩:=h;refine⟨c,T,z,A,fun j u=>?_⟩;have:=B (n+j) (by simp at u;omega);rw[List.getElem_drop,<-this];congr 1;omega
theorem VD.take{w:World}{b off:Nat}{ds:List Value}(n:Nat)(h:VD w b off ds):VD w b off (ds.take n):=by
 obtain⟨c,T,z,A,B⟩:=h;refine⟨c,T,z,A,fun j u=>?_⟩;rw[List.getElem_take];exact B j (by simp at u;omega)
theorem EX{α:Type}{e:Wr α}{xs ys:List α}{lo hi:Int}{S:Nat->Prop}{w:World}{a:Option Addr}{cap:Nat}(hs:sub xs lo hi=some ys)(hl:xs.length<=cap/\xs.length<=140737488355328)
  (h:xs=[]\/∃b off ds,a=some ⟨b,off,none⟩/\b<w.heap.size/\¬S b/\VD w b off ds/\e.YG xs S w ds):
  (Wr.sl e).val ys S w (.slice (if cap=lo.toNat then a else a.map (·.add (lo.toNat*e.n))) (hi.toNat - lo.toNat) (cap - lo.toNat)):=by
 obtain⟨F,G,H,rfl⟩:=gR hs;have u:((xs.take hi.toNat).drop lo.toNat).length=hi.toNat - lo.toNat:=by rw[O8,A6];omega
 refine rZ.2 ⟨_,_,by rw[u],⟨by rw[u];omega,by rw[u];omega⟩,?_⟩;rcases h with h |⟨b,off,ds,rfl,B,C,D,E⟩
 ·subst h;left;simp
 ·by_cases z:hi.toNat - lo.toNat=0
  ·left;exact eu (by rw[u];exact z)
  ·right;have A:¬cap=lo.toNat:=by omega
   refine⟨b,off+lo.toNat*e.n,_,by rw[VN A];simp[Addr.add_lit],B,C,(D.take (hi.toNat*e.n)).drop (lo.toNat*e.n),vJ _ (sJ _ E)⟩
theorem BU{P:Program}{w:World}{len cap:Nat}{k k':IntKind}{lo hi:Int}(h0:0<=lo)(h1:lo<=hi)(h2:hi<=cap):(Instr.sliceBounds true len cap (some (.int k lo)) (some (.int k' hi)) none).run P w= .ok (lo.toNat,hi.toNat,cap) w:=by
 have h:0<=hi:=by omega
 have u:lo<=(hi.toNat:Int):=by omega
 simp only[Instr.sliceBounds,Instr.sliceBound,asIntOf,Sem.run_bind,Sem.run_pure,Result.andThen_ok,h2,h,u,h0,and_self,ZH]
theorem Gn{P:Program}{w:World}{len cap:Nat}{k':IntKind}{hi:Int}(h1:0<=hi)(h2:hi<=cap):(Instr.sliceBounds true len cap none (some (.int k' hi)) none).run P w= .ok (0,hi.toNat,cap) w:=by
 simp[Instr.sliceBounds,Instr.sliceBound,asIntOf,h1,h2]
theorem Cu{P:Program}{w:World}{len cap:Nat}{k:IntKind}{lo:Int}(h0:0<=lo)(h1:lo<=len):(Instr.sliceBounds true len cap (some (.int k lo)) none none).run P w= .ok (lo.toNat,len,cap) w:=by
 simp[Instr.sliceBounds,Instr.sliceBound,asIntOf,h0,h1]
theorem EY{α:Type}{e:Wr α}{xs:List α}{xs':Array Operand}{ρ:Nat->LV}{S a w}(K:j6 σ xs' ρ S a w)(hm:x∈xs')(hx:cZ σ.g x=some (.v (Wr.sl e) xs)):
  ∃ad cap,a.eval x= .slice ad xs.length cap/\(xs.length<=cap/\xs.length<=140737488355328)/\(xs=[]\/∃b off ds,ad=some ⟨b,off,none⟩/\b<w.heap.size/\¬S b/\VD w b off ds/\e.YG xs S w ds):=by
 have h:=K.slot x hm _ hx;simp only[Slot.ok] at h;exact rZ.1 h
theorem Zk{α:Type}{e:Wr α}{xs ys:List α}{hi:Int}{k':IntKind}{U E:TypeId}(hs:sub xs 0 hi=some ys)(hx:cZ σ.g x=some (.v (Wr.sl e) xs))(hz:cZ σ.g z=some (.v (Wr.int k') hi))
  (hU:∀w,(underlying U).run F.P w= .ok (.slice E) w) (hE:∀w,(sizeOf E).run F.P w= .ok e.n w):JO F ⟨d,.slice U x none (some z) none,ty,p,af,gd⟩ σ (.v (Wr.sl e) ys) []:=by
 intro ρ S a w K;obtain⟨D,u,A,B,C⟩:=EY K (x:=x) (by simp[Op.operands]) hx;have h:=(fQ K (x:=z) (by simp[Op.operands]) hz).1;obtain⟨G,s1,H,_⟩:=gR hs;refine UX.value (w':=w) ?_ (WU.same (by simp only[Slot.ok];exact EX hs B C));simp[execOp,Instr.sliceAt,Instr.slice,A,h,hU,hE,Gn s1 (show hi<=(u:Int) by omega)]
theorem wH{α:Type}{e:Wr α}{xs ys:List α}{lo:Int}{k:IntKind}{U E:TypeId}(hs:sub xs lo (xs.length:Int)=some ys)(hx:cZ σ.g x=some (.v (Wr.sl e) xs))(hy:cZ σ.g y=some (.v (Wr.int k) lo))
  (hU:∀w,(underlying U).run F.P w= .ok (.slice E) w) (hE:∀w,(sizeOf E).run F.P w= .ok e.n w):JO F ⟨d,.slice U x (some y) none none,ty,p,af,gd⟩ σ (.v (Wr.sl e) ys) []:=by
 intro ρ S a w K;obtain⟨C,D,u,z,A⟩:=EY K (x:=x) (by simp[Op.operands]) hx;have h:=(fQ K (x:=y) (by simp[Op.operands]) hy).1;obtain⟨B,s1,G,_⟩:=gR hs;refine UX.value (w':=w) ?_ (WU.same (by simp only[Slot.ok];exact EX hs z A));simp[execOp,Instr.sliceAt,Instr.slice,u,h,hU,hE,Cu B s1]
theorem EZ{α:Type}{e:Wr α}{xs ys:List α}{lo hi m:Int}{k k' k2:IntKind}{q:Operand}{U E:TypeId}(hs:sub xs lo hi=some ys)(hm:hi<=m/\m<=xs.length)(hx:cZ σ.g x=some (.v (Wr.sl e) xs))(hy:cZ σ.g y=some (.v (Wr.int k) lo))(hz:cZ σ.g z=some (.v (Wr.int k') hi))(hq:cZ σ.g q=some (.v (Wr.int k2) m))
  (hU:∀w,(underlying U).run F.P w= .ok (.slice E) w) (hE:∀w,(sizeOf E).run F.P w= .ok e.n w):JO F ⟨d,.slice U x (some y) (some z) (some q),ty,p,af,gd⟩ σ (.v (Wr.sl e) ys) []:=by
 intro ρ S a w K;obtain⟨G,H,X,h2,D⟩:=EY K (x:=x) (by simp[Op.operands]) hx;have A:=(fQ K (x:=y) (by simp[Op.operands]) hy).1;have B:=(fQ K (x:=z) (by simp[Op.operands]) hz).1;have C:=(fQ K (x:=q) (by simp[Op.operands]) hq).1;obtain⟨s0,s1,s2,rfl⟩:=gR hs;have u:((xs.take hi.toNat).drop lo.toNat).length=hi.toNat - lo.toNat:=by rw[O8,A6];omega
 have I:(Wr.sl e).val ((xs.take hi.toNat).drop lo.toNat) S w (.slice (if m.toNat=lo.toNat then G else G.map (·.add (lo.toNat*e.n))) (hi.toNat - lo.toNat) (m.toNat - lo.toNat)):=by
  refine rZ.2 ⟨_,_,by rw[u],⟨by rw[u];omega,by rw[u];omega⟩,?_⟩;rcases D with h |⟨b,aa,ds,rfl,D,A,B,C⟩
  ·subst h;left;simp
  ·by_cases L:hi.toNat - lo.toNat=0
   ·left;exact eu (by rw[u];exact L)
   ·right;have M:¬m.toNat=lo.toNat:=by omega
    refine⟨b,aa+lo.toNat*e.n,_,by rw[VN M];simp[Addr.add_lit],D,A,(B.take (hi.toNat*e.n)).drop (lo.toNat*e.n),vJ _ (sJ _ C)⟩
 refine UX.value (w':=w) ?_ (WU.same (by simp only[Slot.ok];exact I));have N:(Instr.sliceBounds true xs.length H (some (.int k lo)) (some (.int k' hi)) (some (.int k2 m))).run F.P w= .ok (lo.toNat,hi.toNat,m.toNat) w:=by
  have O:0<=m:=by omega
  have Q:m<=(H:Int):=by omega
  have R:0<=hi:=by omega
  have T:hi<=(m.toNat:Int):=by omega
  have V:lo<=(hi.toNat:Int):=by omega
  simp only[Instr.sliceBounds,Instr.sliceBound,asIntOf,Sem.run_bind,Sem.run_pure,Result.andThen_ok,s0,O,Q,R,T,V,and_self,ZH]
 simp[execOp,Instr.sliceAt,Instr.slice,X,A,B,C,hU,hE,N]
def m7{α:Type}(n:Nat)(xs:List α):Option (List α):=if n<=xs.length/\0<n then some (xs.take n) else none
theorem Du{α:Type}{e:Wr α}{xs ys:List α}{n:Nat}{U E:TypeId}(hs:m7 n xs=some ys)(hx:cZ σ.g x=some (.v (Wr.sl e) xs))(hU:∀w,(underlying U).run F.P w= .ok (.array n E) w):
  JO F ⟨d,.sliceToArrayPointer U x,ty,p,af,gd⟩ σ (.XA (Wr.arr n e) ys) []:=by
 intro ρ S a w K;obtain⟨I,L,C,M,u⟩:=EY K (x:=x) (by simp[Op.operands]) hx;unfold m7 at hs;split at hs
 ·rename_i B;cases hs;rcases u with h |⟨b,z,N,rfl,u,D,G,H⟩
  ·subst h;simp at B;omega
  ·have A:¬xs.length<n:=by omega
   refine UX.value (w':=w) (v:= .pointer (some ⟨b,z,none⟩)) ?_ (WU.same (by simp only[Slot.ok];exact⟨b,z,_,rfl,u,D,G.take (n*e.n),by rw[A6];omega,sJ _ H⟩));simp[execOp,Instr.arrayAt,C,hU,A]
 ·cases hs
theorem At{k:IntKind}{m n:Int}{U U':TypeId}(hx:cZ σ.g x=some (.v (Wr.int k) m))(hy:cZ σ.g y=some (.v (Wr.int k) n)):
  JO F ⟨d,.call ⟨.builtin .max,#[x,y],#[U,U']⟩,ty,p,af,gd⟩ σ (.v (Wr.int k) (max m n)) []:=by
 intro ρ S a w K;obtain⟨h,z⟩:=fQ K (x:=x) (by simp[Op.operands,Call.operands]) hx;obtain⟨u,A⟩:=fQ K (x:=y) (by simp[Op.operands,Call.operands]) hy;have e:(if n>m then n else m)=max m n:=by split<;>omega
 refine UX.value (w':=w) (v:= .int k (max m n)) ?_ (WU.same (sY (by unfold Co at*;omega) ρ S w));simp[execOp,resolve,invoke,builtin,h,u,Builtin.max_,Builtin.max2,e]
theorem yH{k:IntKind}{m n:Int}{U U':TypeId}(hx:cZ σ.g x=some (.v (Wr.int k) m))(hy:cZ σ.g y=some (.v (Wr.int k) n)):
  JO F ⟨d,.call ⟨.builtin .min,#[x,y],#[U,U']⟩,ty,p,af,gd⟩ σ (.v (Wr.int k) (min m n)) []:=by
 intro ρ S a w K;obtain⟨h,z⟩:=fQ K (x:=x) (by simp[Op.operands,Call.operands]) hx;obtain⟨u,A⟩:=fQ K (x:=y) (by simp[Op.operands,Call.operands]) hy;have e:(if n<m then n else m)=min m n:=by split<;>omega
 refine UX.value (w':=w) (v:= .int k (min m n)) ?_ (WU.same (sY (by unfold Co at*;omega) ρ S w));simp[execOp,resolve,invoke,builtin,h,u,Builtin.min_,Builtin.min2,e]
theorem Ik{T U:TypeId}{l:List Slot}{i off n:Nat}{s0:Slot}(hx:cZ σ.g x=some (.ptr i off))(he:aW σ.d i=some (.box T l pb))(ho:nJ l off=some s0)(hy:Arg σ false y s)(hp:s.plain=true)(j8:s.sz=n)(F8:s0.sz=n)
  (hS:∀w,(sizeOf U).run F.P w= .ok n w):JM F ⟨none,.store U x y,ty,p,af,gd⟩ σ ⟨σ.g,(i,.box T (nU l off s) pb)::σ.d⟩:=by
 refine pX he rfl fun ρ a w z A=>?_;have K:=cI z A (Op.store U x y).operands;obtain⟨b,R,B,I,C,L⟩:=zI K (x:=x) (by simp[Op.operands]) hx he;have h:=qR hp (hy ρ _ a w (cI z A #[y]));simp only[O5,ZN] at h;obtain⟨M,c,N,rfl,rfl,O,Q⟩:=uP ho L;have D:∀u∈(a.eval y).cells.toList,u.oneCell'=true:=fun u G=>Gk h u G (fun e=>by subst e;cases hp);have E:=kQ (P:=F.P) (w:=w) (U:=U) hS (by have:=nL h;simp only[X6] at this;omega) D C rfl (by rw[nL O];exact F8);refine⟨b,w.setRow b (M++((a.eval y).cells.toList++N)).toArray,.inl (by rw[B];rfl),X7.setRow w b _,?_,fun H=>?_⟩
 ·exact kR I E
 ·refine⟨⟨b,_,B,setRow_heap w b _ _ T _ C,?_⟩,(z.own i _ he).2⟩;exact fN _ _ (Q s _ h) H (fun _ _=>rfl)
theorem FA(g:Nat)(ρ:Nat->LV)(S:Nat->Prop)(w:World):(Slot.YV g []).ok ρ S w (.func (.func g) #[] #[]):=by
 simp only[Slot.ok];exact⟨[],rfl,rfl⟩
theorem Arg.fn{g:Nat}{YO:Bool}:Arg σ YO (.func g) (.YV g []):=fun ρ _ a w _=>FA g ρ _ w
end
end Go.Sw
namespace Go.Sw
open Go Go.RowKit
section
variable {F:WK}{σ:AS}{pb:Option Nat}{s:Slot}{d:Option Tmp}{ty:TypeId}{p:String}{af:Array Edge}{gd:Option (Nat×Bool)}{x y z:Operand}
theorem Au{ρ S w}:∀{l l':List Slot} {vs E4:List Value},aX ρ S w l vs->aX ρ S w l' E4->aX ρ S w (l++l') (vs++E4)
 | [],_,vs,_,h,z=>by simp only[aX] at h;subst h;exact z
 |s::l,_,vs,_,h,z=>by
  simp only[aX] at h;obtain⟨u,C,rfl,A,B⟩:=h;simp only[dg,aX];exact⟨u,_,rfl,A,Au B z⟩
theorem Pg{P:Program}{f:FuncId}{xs:List Operand}{ts:Array TypeId}{a:Act}{w:World}{cs:List Value}(hx:a.eval x= .func (.func f) #[] cs.toArray)(XB:∀args w,(callFunc f args).run P w= .ok (.enter f args) w):
  (execOp a.eval ⟨d,.call ⟨.value x,xs.toArray,ts⟩,ty,p,af,gd⟩).run P w= .ok (.enter f (xs.map a.eval++cs).toArray) w:=by
 simp[execOp,resolve,hx,Deferred.ofValue,invoke,XB]
theorem tG{f:FuncId}{xs:List Operand}{cap:List Slot}(ha:M0 σ false xs cap):JO F ⟨d,.makeFunc (.func f) #[] xs.toArray,ty,p,af,gd⟩ σ (.YV f cap) []:=by
 intro ρ S a w K;have:=ha.spec (ys:=(Op.makeFunc (.func f) #[] xs.toArray).operands) (by intro x h;simp[Op.operands,h]) K;simp only[O5,ZN] at this;refine UX.value (w':=w) (v:= .func (.func f) #[] (xs.map a.eval).toArray) (by simp[execOp,Instr.makeFunc]) (WU.same (by simp only[Slot.ok];exact⟨_,rfl,this⟩))
theorem Wz{α:Type}{i:Nat}{T:TypeId}{e:Wr α}{v:α}{bl:List Slot}{ρ:Nat->LV}{S:Nat->Prop}{w:World}{u:Value}(h0:(Slot.ptr i 0).ok ρ S w u)(he:(UU.box T bl pb).ok ρ S w (ρ i))(hs:J2 bl e v):
  (Slot.XA e v).ok ρ (fun _=>False) w u:=by
 simp only[Slot.ok] at h0 ⊢;obtain⟨⟨b,z⟩,D⟩:=h0;obtain⟨⟨A,E,B,C,F⟩,_⟩:=he;obtain rfl:A=b:=by rw[z] at B;simpa using B.symm
 exact⟨A,0,E,by rw[D,z];rfl,(VD.of_heap C).lt,fun h=>h,VD.of_heap C,e.mono ((hs _ _ _ _).1 F) (zJ S w true)⟩
inductive fa (σ:AS):List Slot->List Slot->Prop
 |nil:fa σ [] []
 |same {s:Slot} {l l':List Slot}:fa σ l l'->fa σ (s::l) (s::l')
 |ptr {α:Type} {i:Nat} {T:TypeId} {e:Wr α} {v:α} {bl l l':List Slot} {pb:Option Nat}:aW σ.d i=some (.box T bl pb)->J2 bl e v->fa σ l l'->fa σ (.ptr i 0::l) (.XA e v::l')
theorem fa.spec{l l':List Slot}(h:fa σ l l'){ρ S w}(gv:∀i∈dR l,∀en,aW σ.d i=some en->en.ok ρ S w (ρ i)):∀vs,aX ρ S w l vs->aX ρ (fun _=>False) w l' vs:=by
 induction h with
 |nil=>intro vs h;exact h
 |same _ E=>
  intro vs h;simp only[aX] at h ⊢;obtain⟨u,z,B,C,D⟩:=h;exact⟨u,z,B,Slot.UR _ u C (zJ S w true) (fun _ _=>rfl),E (fun i A=>gv i (by simp[dR,A])) z D⟩
 |ptr F G _ E=>
  intro vs h;simp only[aX] at h ⊢;obtain⟨u,z,B,C,D⟩:=h;exact⟨u,z,B,Wz C (gv _ (by simp[dR,Slot.XO]) _ F) G,E (fun i A=>gv i (by simp[dR,A])) z D⟩
theorem Arg.E9{α:Type}{i:Nat}{T:TypeId}{e:Wr α}{v:α}{bl:List Slot}(h:cZ σ.g x=some (.ptr i 0))(he:aW σ.d i=some (.box T bl pb))(hs:J2 bl e v):Arg σ true x (.XA e v):=by
 intro ρ S a w K;have u:=K.slot x (by simp) _ h;exact Wz u (K.w7 x (by simp) _ h i (by simp[Slot.XO]) _ he).1 hs
theorem Arg.aMk{g:Nat}{cap I9:List Slot}(h:cZ σ.g x=some (.YV g cap))(hc:fa σ cap I9):Arg σ true x (.YV g I9):=by
 intro ρ S a w K;have u:=K.slot x (by simp) _ h;simp only[Slot.ok] at u;obtain⟨vs,C,D⟩:=u;simp only[Slot.ok,ZH];exact⟨vs,C,hc.spec (fun i z A B=>(K.w7 x (by simp) _ h i (by simpa[Slot.XO] using z) A B).1) vs D⟩
theorem tH{α:Type}{e:Wr α}{v:α}(hx:cZ σ.g x=some (.XA e v)):JO F ⟨d,.nilCheck x,ty,p,af,gd⟩ σ (.XA e v) []:=by
 intro ρ S a w K;have h:=K.slot x (by simp[Op.operands]) _ hx;have u:=h;simp only[Slot.ok] at u;obtain⟨b,A,B,z,_⟩:=u;refine UX.value (w':=w) (v:=a.eval x) ?_ (WU.same h);simp[execOp,z]
theorem aL{i off:Nat}(hx:cZ σ.g x=some (.ptr i off)):JO F ⟨d,.nilCheck x,ty,p,af,gd⟩ σ (.ptr i off) []:=by
 intro ρ S a w K;have h:=K.slot x (by simp[Op.operands]) _ hx;have u:=h;simp only[Slot.ok] at u;obtain⟨⟨b,z⟩,A⟩:=u;refine UX.value (w':=w) (v:=a.eval x) ?_ (WU.same h);simp[execOp,A,z,Cm]
end
end Go.Sw
namespace Go.Sw
open Go Go.RowKit
theorem J2.UO{α β:Type}{l l':List Slot}{a:Wr α}{b:Wr β}{x:α}{y:β}(h:J2 l a x)(h':J2 l' b y):J2 (l++l') (Wr.pr a b) (x,y):=J2.pr (x:=(x,y)) h h'
section
variable {F:WK}{σ:AS}{pb:Option Nat}{s:Slot}{d:Option Tmp}{ty:TypeId}{p:String}{af:Array Edge}{gd:Option (Nat×Bool)}{x y z:Operand}
theorem aM{f:FuncId}{xs:List Operand}{ts:Array TypeId}{ss:List Slot}{res:Slot}(hc:VG F.P f ss res [])(XB:∀args w,(callFunc f args).run F.P w= .ok (.enter f args) w)
  (ha:M0 σ false xs ss):JO F ⟨d,.call ⟨.value (.func f),xs.toArray,ts⟩,ty,p,af,gd⟩ σ res []:=by
 intro ρ S a w K;refine UX.enter (vI XB) ?_;have:=ha.spec (ys:=(Op.call ⟨.value (.func f),xs.toArray,ts⟩).operands) (by intro x u;simp[Op.operands,Call.operands,u]) K;refine(hc S w _ ρ K.low this).mono ?_;rintro e z ⟨v,rfl,h⟩;exact⟨v,rfl,h⟩
theorem tI{f:FuncId}{xs:List Operand}{ts:Array TypeId}{ss cap:List Slot}{res:Slot}(hx:cZ σ.g x=some (.YV f cap))(hc:VG F.P f (ss++cap) res [])(XB:∀args w,(callFunc f args).run F.P w= .ok (.enter f args) w)
  (ha:M0 σ false xs ss):JO F ⟨d,.call ⟨.value x,xs.toArray,ts⟩,ty,p,af,gd⟩ σ res []:=by
 intro ρ S a w K;have u:=K.slot x (by simp[Op.operands,Call.operands]) _ hx;simp only[Slot.ok] at u;obtain⟨B,z,A⟩:=u;refine UX.enter (Pg z XB) ?_;have:=ha.spec (ys:=(Op.call ⟨.value x,xs.toArray,ts⟩).operands) (by intro x hx;simp[Op.operands,Call.operands,hx]) K;refine(hc S w _ ρ K.low (Au this A)).mono ?_;rintro e C ⟨v,rfl,h⟩;exact⟨v,rfl,h⟩
theorem rE{f:FuncId}{xs:List Operand}{ts:Array TypeId}{ss:List Slot}{res:Slot}(hc:VG F.P f ss res [])(XB:∀args w,(callFunc f args).run F.P w= .ok (.enter f args) w)
  (ha:M0 σ true xs ss) (hf:XH res):JO F ⟨d,.call ⟨.value (.func f),xs.toArray,ts⟩,ty,p,af,gd⟩ σ res []:=by
 intro ρ S a w K;refine UX.enter (vI XB) ?_;have:=ha.spec (ys:=(Op.call ⟨.value (.func f),xs.toArray,ts⟩).operands) (by intro x z;simp[Op.operands,Call.operands,z]) K;refine(hc (fun _=>False) w _ ρ (fun _ h=>h.elim) this).mono ?_;rintro e E ⟨v,rfl,ρ',A,B,C,G⟩;refine⟨v,rfl,ρ',A,B,hf _ _ _ _ _ C,⟨fun i u h=>by simp[aW] at h,fun i u b h=>by simp[aW] at h,fun i j u D b h=>by simp[aW] at h⟩⟩
theorem Lv{P:Program}{w:World}{n:Nat}:(Instr.sliceBounds false n n none none none).run P w= .ok (0,n,n) w:=by simp[Instr.sliceBounds]
theorem Jn{P:Program}{w:World}{n:Nat}{k:IntKind}{hi:Int}(h0:0<=hi)(h1:hi<=n):(Instr.sliceBounds false n n none (some (.int k hi)) none).run P w= .ok (0,hi.toNat,n) w:=by
 simp[Instr.sliceBounds,Instr.sliceBound,asIntOf,h0,h1]
theorem BV{P:Program}{w:World}{U E:TypeId}{b off len m:Nat}(hU:∀w,(underlying U).run P w= .ok (.array len E) w)(hE:∀w,(sizeOf E).run P w= .ok m w):(Instr.sliceAt U (.pointer (some ⟨b,off,none⟩)) none none none).run P w= .ok (.slice (some ⟨b,off,none⟩) len len) w:=by
 have u:Addr.add ⟨b,off,none⟩ 0=⟨b,off,none⟩:=by rw[Addr.add_lit];rfl
 by_cases h:len=0
 ·subst h;simp[Instr.sliceAt,hU,hE,Instr.sureAddr,Lv]
 ·simp[Instr.sliceAt,hU,hE,Instr.sureAddr,Lv,h,u]
theorem Xa{P:Program}{w:World}{U E:TypeId}{b off len m:Nat}{k:IntKind}{hi:Int}(h0:0<=hi)(h1:hi<=len)(hU:∀w,(underlying U).run P w= .ok (.array len E) w)(hE:∀w,(sizeOf E).run P w= .ok m w):(Instr.sliceAt U (.pointer (some ⟨b,off,none⟩)) none (some (.int k hi)) none).run P w= .ok (.slice (some ⟨b,off,none⟩) hi.toNat len) w:=by
 have u:Addr.add ⟨b,off,none⟩ 0=⟨b,off,none⟩:=by rw[Addr.add_lit];rfl
 by_cases h:len=0
 ·subst h;simp[Instr.sliceAt,hU,hE,Instr.sureAddr,Jn h0 h1]
 ·simp[Instr.sliceAt,hU,hE,Instr.sureAddr,Jn h0 h1,h,u]
theorem Ph{α:Type}{e:Wr α}{zs:List α}{T U E:TypeId}{l:List Slot}{i off len:Nat}(hx:cZ σ.g x=some (.ptr i off))(he:aW σ.d i=some (.box T l pb))(_ho:nJ l off=some (.v (Wr.arr len e) zs))
  (hU:∀w,(underlying U).run F.P w= .ok (.array len E) w) (hE:∀w,(sizeOf E).run F.P w= .ok e.n w):
  JO F ⟨d,.slice U x none none none,ty,p,af,gd⟩ σ (.n9 i off 0 len len) []:=by
 intro ρ S a w K;obtain⟨b,z,h,u,A,B⟩:=zI K (x:=x) (by simp[Op.operands]) hx he;refine UX.value (w':=w) (v:= .slice (some ⟨b,off,none⟩) len len) ?_ (WU.same (by simp only[Slot.ok];exact⟨⟨b,h⟩,by rw[h];rfl⟩));simp[execOp,u,BV hU hE]
theorem QW{xs:Array Operand}{ρ:Nat->LV}{S a w}(K:j6 σ xs ρ S a w)(hm:x∈xs){i off n cap:Nat}{T:TypeId}{l:List Slot}(hx:cZ σ.g x=some (.n9 i off 0 n cap))(he:aW σ.d i=some (.box T l pb)):
  ∃b cs,a.eval x= .slice (some ⟨b,off,none⟩) n cap/\w.heap[b]? =some (.cells cs.toArray T (0,0))/\aZ ρ S w l cs:=by
 have h:=K.slot x hm _ hx;simp only[Slot.ok] at h;obtain⟨⟨b,u⟩,B⟩:=h;have:=(K.w7 x hm _ hx i (by simp[Slot.XO]) _ he).1;obtain⟨⟨z,cs,A,C,D⟩,_⟩:=this;obtain rfl:z=b:=by rw[u] at A;simpa using A.symm
 exact⟨z,cs,by rw[B,u];rfl,C,D⟩
theorem KK{α:Type}{e:Wr α}{zs:List α}{T:TypeId}{l:List Slot}{b off len:Nat}{cs:List Value}{ρ:Nat->LV}{S:Nat->Prop}{w:World}(h3:w.heap[b]? =some (.cells cs.toArray T (0,0)))(h4:aZ ρ S w l cs)(ho:nJ l off=some (.v (Wr.arr len e) zs)):
  zs.length=len/\∃ds,VD w b off ds/\e.YG zs S w ds:=by
 obtain⟨u,c,z,rfl,rfl,h,_⟩:=uP ho h4;simp only[Slot.YI] at h;exact⟨h.1,c,by have:=(VD.of_heap h3).sub;simpa using this,h.2⟩
theorem Src.n9{α:Type}{e:Wr α}{zs:List α}{T:TypeId}{l:List Slot}{i off len:Nat}(h:cZ σ.g y=some (.n9 i off 0 len len))(he:aW σ.d i=some (.box T l pb))(ho:nJ l off=some (.v (Wr.arr len e) zs))(hlen:Nat.ble len 4294967296=true):Src σ y e zs:=by
 intro ρ S a w K;have hlen:=p8 hlen;obtain⟨b,F,u,z,A⟩:=QW K (x:=y) (by simp) h he;obtain⟨B,C,D,E⟩:=KK z A ho;exact⟨by omega,_,_,by rw[u,B],.inr ⟨b,off,C,rfl,D,E⟩⟩
theorem BW{α:Type}{e:Wr α}{T E:TypeId}{n:Nat}{ti tE:TypeInfo}{z:Value}{ps:List (Nat×Operand)}{zs:List α}(hI:∀w,(typeInfo T).run F.P w= .ok ti w)(hU:∀w,(underlying T).run F.P w= .ok (.array n E) w)(hE:∀w,(typeInfo E).run F.P w= .ok tE w)(hs:tE.size=e.n)(hz:ti.zero=some z)(hzn:z.cells.size=n*e.n)
  (hl:ps.length=n) (P6:zs.length=n) (he:y4 σ e 0 ps zs):JO F ⟨d,.build T ps.toArray,ty,p,af,gd⟩ σ (.v (Wr.arr n e) zs) []:=by
 intro ρ S a w K;obtain⟨h,B,C⟩:=he.spec (ys:=(Op.build T ps.toArray).operands) (by intro x u;simp[Op.operands] at u ⊢;exact u) K [] z.cells.toList (by simp) (by rw[hl,X6,hzn]);refine UX.value (w':=w) (v:= .agg h.toArray) ?_ (WU.same (by simp only[Slot.ok];exact⟨h,⟨P6,C⟩,rfl⟩));have A:F.P.built T (ps.map fun q=>(q.1,a.eval q.2))=some h.toArray:=by
  unfold Program.built;rw[tV hI,nV hU];simp only[hz,tV hE,hs];simpa using B
 have:=run_build (P:=F.P) w T (ps.map fun q=>(q.1,a.eval q.2)).toArray h.toArray (by simpa using A);simp only[execOp,aDa];simp[this]
end
end Go.Sw
namespace Go.Sw
open Go Go.RowKit
def Wr.E6{α:Type}(e:Wr α):Wr (Bool×List α) where
 n:=1
 agg:=false
 ok x S w cs:=(Wr.sl e).ok x.2 S w cs/\∀a l c,cs=[.slice a l c]->x.1=a.isNone
 len h:=(Wr.sl e).len h.1
 one _:=rfl
 cell h:=(Wr.sl e).cell h.1
 mono h k:=⟨(Wr.sl e).mono h.1 k,h.2⟩
theorem Rg{α:Type}{e:Wr α}{b:Bool}{xs:List α}{S w u}(h:(Wr.E6 e).val (b,xs) S w u):(Wr.sl e).val xs S w u/\∃a l c,u= .slice a l c/\b=a.isNone:=by
 obtain⟨B,⟨z,C⟩,rfl⟩:=h;refine⟨⟨B,z,rfl⟩,?_⟩;obtain⟨a,D,A,_⟩:=z;exact⟨a,_,D,by rw[A];rfl,C _ _ _ A⟩
theorem rF{α:Type}{P:Program}{f:FuncId}{e:Wr α}{xs:List α}{res:Slot}{new:List (Nat×UU)}(h:∀b,(b=true->xs=[])->VG P f [.v (Wr.E6 e) (b,xs)] res new):VG P f [.v (Wr.sl e) xs] res new:=by
 intro S w vs ρ hl hv;simp only[aX,Slot.ok] at hv;obtain⟨u,F,rfl,C,rfl⟩:=hv;obtain⟨a,A,rfl,D,z⟩:=rZ.1 C;refine h a.isNone (fun B=>?_) S w _ ρ hl ?_
 ·rcases z with z |⟨b,G,H,rfl,_⟩
  ·exact z
  ·cases B
 ·simp only[aX,Slot.ok];refine⟨_,[],rfl,⟨[.slice a xs.length A],⟨⟨a,A,rfl,D,z⟩,fun E l c h=>?_⟩,rfl⟩,rfl⟩;simp at h;rw[h.1]
section
variable {F:WK}{σ:AS}{s:Slot}{d:Option Tmp}{ty:TypeId}{p:String}{af:Array Edge}{gd:Option (Nat×Bool)}{x y z:Operand}
theorem wY{α:Type}{e:Wr α}{v:Bool×List α}{T T' E:TypeId}(hx:cZ σ.g x=some (.v (Wr.E6 e) v))(hT:∀w,(underlying T).run F.P w= .ok (.slice E) w):JO F ⟨d,.binOp .eql T x (.const (.slice none 0 0)) T',ty,p,af,gd⟩ σ (.v Wr.bool v.1) []:=by
 intro ρ S a w K;have h:=K.slot x (by simp[Op.operands]) _ hx;simp only[Slot.ok] at h;obtain⟨b,xs⟩:=v;obtain⟨_,u,l,c,A,rfl⟩:=Rg h;have z:=run_equalIn_slice_nil (P:=F.P) w 9999 T E u l c (nV hT);refine UX.value (w':=w) (v:= .bool u.isNone) ?_ (WU.same (pD _ ρ S w));exact BO (r:=u.isNone) (.inl ⟨rfl,rfl⟩) A rfl (by intros;simp) (by intros;simp) (by intros;simp) (by intros;simp) (by simp[eqGuard,Act.eval]) z
theorem Src.E6{α:Type}{e:Wr α}{v:Bool×List α}(h:cZ σ.g y=some (.v (Wr.E6 e) v)):Src σ y e v.2:=by
 intro ρ S a w K;have z:=K.slot y (by simp) _ h;simp only[Slot.ok] at z;obtain⟨A,B,C,D,u⟩:=rZ.1 (Rg z).1;refine⟨D.2,A,B,C,?_⟩;rcases u with u |⟨b,E,F,G,_,_,H,I⟩
 ·exact .inl u
 ·exact .inr ⟨b,E,F,G,H,I⟩
end
end Go.Sw
namespace Go.Sw
open Go Go.RowKit
def uh(cs:List Value)(l:List Slot)(new:List (Nat×UU)):Prop:=∀ρ S w,(∀i en,aW new i=some en->ρ i= .of (.slice none 0 0))->aZ ρ S w l cs
theorem uh.nil{new:List (Nat×UU)}:uh [] [] new:=fun _ _ _ _=>rfl
theorem uh.cons{cs:List Value}{l:List Slot}{new:List (Nat×UU)}{α:Type}{e:Wr α}{z:α}{c:List Value}(h:∀S w,e.ok z S w c)(k:uh cs l new):uh (c++cs) (.v e z::l) new:=fun ρ S w u=>by
 simp only[aZ];exact⟨c,cs,rfl,by simp only[Slot.YI];exact h S w,k ρ S w u⟩
theorem uh.ref{cs:List Value}{l:List Slot}{new:List (Nat×UU)}{en:UU}(i:Nat)(hi:aW new i=some en)(k:uh cs l new):uh (.slice none 0 0::cs) (.ref i::l) new:=fun ρ S w h=>by
 simp only[aZ];exact⟨[.slice none 0 0],cs,rfl,by simp only[Slot.YI];rw[h i en hi];exact⟨.inl ⟨_,_,_,rfl⟩,rfl⟩,k ρ S w h⟩
inductive Y9:List (Nat×UU)->Prop
 |nil:Y9 []
 |cons {α:Type} {i:Nat} {T:TypeId} {e:Wr α} {r:List (Nat×UU)}:Y9 r->Y9 ((i,.arr T e [])::r)
 |dp {α:Type} {i:Nat} {D:DE α} {x:α} {r:List (Nat×UU)}:(∀S w,D.ok x S w (.of (.slice none 0 0)) [])->Y9 r->Y9 ((i,.dp D x [])::r)
theorem Y9.spec{new:List (Nat×UU)}(h:Y9 new):∀i en,aW new i=some en->∀ρ S w,en.ok ρ S w (.of (.slice none 0 0)):=by
 induction h with
 |nil=>intro i en h;simp[aW] at h
 |cons _ u=>
  rename_i α i T e r _;intro j en h;simp only[aW] at h;cases hb:Nat.beq i j with
  |true=>rw[hb] at h;simp at h;subst h;intro ρ S w;exact .inl ⟨rfl,rfl⟩
  |false=>rw[hb] at h;exact u j en h
 |dp z _ u=>
  rename_i α i D x r _;intro j en h;simp only[aW] at h;cases hb:Nat.beq i j with
  |true=>rw[hb] at h;simp at h;subst h;intro ρ S w;exact z S w
  |false=>rw[hb] at h;exact u j en h
section
variable {F:WK}{σ:AS}{s:Slot}{d:Option Tmp}{ty:TypeId}{p:String}{af:Array Edge}{gd:Option (Nat×Bool)}{x y z:Operand}
theorem Zl{new:List (Nat×UU)}{xs:Array Operand}{ρ:Nat->LV}{S:Nat->Prop}{a:Act}{w:World}(hn:Y9 new)(hf:σ.free new=true)(K:j6 σ xs ρ S a w):
  ∃ρ':Nat->LV,(∀i,aW new i=none->ρ' i=ρ i)/\(∀i en,aW new i=some en->ρ' i= .of (.slice none 0 0))/\j6 σ xs ρ' S a w/\kq ρ' (Un S ρ' new) w w new/\Ext S (Un S ρ' new) w w:=by
 let ρ':Nat->LV:=fun i=>if (aW new i).isSome then .of (.slice none 0 0) else ρ i
 have D:∀i,aW new i=none->ρ' i=ρ i:=fun i h=>VN (by simp[h]);have B:∀i en,aW new i=some en->ρ' i= .of (.slice none 0 0):=fun i en h=>VX (by simp[h]);have F:=fun {i en} (h:aW new i=some en)=>kL hf h;have L:∀t s,lk σ.g t=some s->mJ ρ ρ' s.XO:=by
  intro t s P j A;cases hl:aW new j with
  |none=>exact congrArg LV.v (D j hl)
  |some en=>exact absurd A ((F hl).1 t s P)
 have M:∀i en,aW σ.d i=some en->mJ ρ ρ' en.XO:=by
  intro i en G j A;cases hl:aW new j with
  |none=>exact congrArg LV.v (D j hl)
  |some Q=>exact absurd A ((F hl).2.2 i en G)
 have N:∀x s,cZ σ.g x=some s->mJ ρ ρ' s.XO:=by
  intro x s z;cases x with
  |tmp t=>exact L t s z
  |const u=>have:=(Li z ρ S w).2;intro j A;rw[this] at A;simp at A
  |global g=>cases z
  |func f=>cases z
 refine⟨ρ',D,B,⟨K.low,fun x z s E=>Slot.UR s _ (K.slot x z s E) (Ext.refl S w) (N x s E),fun x z s E i G en H=>?_⟩,⟨fun i en h=>?_,fun i en b h C=>?_,fun i j en Q b h X C _=>?_⟩,⟨XZ _,fun k _ R=>⟨rfl,?_⟩⟩⟩
 ·obtain⟨T,U⟩:=K.w7 x z s E i G en H
  have O:ρ' i=ρ i:=D i (by
   cases hl:aW new i with
   |none=>rfl
   |some e=>have:=(F hl).2.1;rw[H] at this;cases this)
  rw[O];exact⟨UU.UR T (Ext.refl S w) (M i en H) (fun _ _=>rfl),U⟩
 ·rw[B i en h];exact hn.spec i en h _ _ _
 ·rw[B i en h] at C;simp[pC,YC] at C
 ·rw[B i en h] at C;simp[pC,YC] at C
 ·rintro (h |⟨i,en,V,I⟩)
  ·exact R h
  ·rw[B i en V] at I;simp[pC,YC] at I
theorem fO{T:TypeId}{pl:Array (Nat×Nat)}{zs:List Value}{ps:List (Nat×Operand)}{l l':List Slot}{new:List (Nat×UU)}(hB:∀parts,F.P.built T parts=Instr.fill (pl[·]?) zs.toArray parts)(hz:uh zs l new)(hn:Y9 new)(hf:σ.free new=true)(hp:J3 σ pl l ps l'):
  JO F ⟨d,.build T ps.toArray,ty,p,af,gd⟩ σ (.agg l') new:=by
 intro ρ S a w K;obtain⟨ρ',A,B,C,D,E⟩:=Zl hn hf K;obtain⟨h,G,H⟩:=hp.spec (ys:=(Op.build T ps.toArray).operands) (by intro x u;simp[Op.operands] at u ⊢;exact u) C zs (hz ρ' S w B);have z:(Slot.agg l').ok ρ' S w (.agg h.toArray):=by simp only[Slot.ok];exact⟨h,rfl,H⟩
 refine UX.value (w':=w) (v:= .agg h.toArray) ?_ ⟨ρ',A,Below.refl _ _,Slot.UR _ _ z E (fun _ _=>rfl),D⟩;have:=run_build (P:=F.P) w T (ps.map fun q=>(q.1,a.eval q.2)).toArray h.toArray (by rw[hB];exact G);simp only[execOp,aDa];simp[this]
end
end Go.Sw
namespace Go.Sw
open Go Go.RowKit
structure Ins (S:Nat->Prop) (ρ:Nat->LV) (w:World) (XG:List (Nat×UU)):Prop where
 own:∀i en,aW XG i=some en->en.ok ρ (Un S ρ XG) w (ρ i)
 lt:∀i en b,aW XG i=some en->qO (ρ i) b->b<w.heap.size
 apart:∀i en b,aW XG i=some en->qO (ρ i) b->¬S b
 inj:∀i j en en' b,aW XG i=some en->aW XG j=some en'->qO (ρ i) b->qO (ρ j) b->i=j
structure bw (S:Nat->Prop) (R:Nat->Prop) (w0:World) (res:Slot) (VC:List (Nat×UU)) (ρ:Nat->LV) (v:Value) (w:World):Prop where
 size:w0.heap.size<=w.heap.size
 frame:∀k,k<w0.heap.size->¬R k->w.heap[k]? =w0.heap[k]?
 os:w.os=w0.os
 tape:w.tape=w0.tape
 output:w.output=w0.output
 slot:res.ok ρ (Un S ρ VC) w v
 own:∀i en,aW VC i=some en->en.ok ρ (Un S ρ VC) w (ρ i)
 fresh:∀i en b,aW VC i=some en->qO (ρ i) b->(w0.heap.size<=b\/R b)/\b<w.heap.size
 apart:∀i en b,aW VC i=some en->qO (ρ i) b->¬S b
 inj:∀i j en en' b,aW VC i=some en->aW VC j=some en'->qO (ρ i) b->qO (ρ j) b->i=j
def UT(P:Program)(f:FuncId)(args:List Slot)(XG:List (Nat×UU))(res:Slot)(VC:List (Nat×UU)):Prop:=
 ∀S w vs ρ,(∀k,S k->k<w.heap.size)->Ins S ρ w XG->aX ρ (Un S ρ XG) w args vs->Calls P f vs.toArray w fun e h=>∃v ρ',e= .returned v/\bw S (mL ρ XG) w res VC ρ' v h
def zM(F:WK)(fn:Func)(res:Slot)(VC:List (Nat×UU)):Exit->Act->World->Prop:=
 bodyPostM Fence.wide 0 F.P fn fun e h=>∃v ρ',e= .returned v/\bw F.S0 F.R F.w0 res VC ρ' v h
theorem UT.of{P:Program}{f:FuncId}{fn:Func}{c:Code}{N:Nat}{args:List Slot}{XG:List (Nat×UU)}{res:Slot}{VC:List (Nat×UU)}
  (hf:P.funcs[f]? =some fn) (hb:fn.body=some c) (hN:fn.ntmps=N) (hle:Nat.ble args.length N=true)
  (h:∀S w R,R3 ⟨P,N,S,w,R,none,[]⟩ ⟨P,N,S,w,R,none,[]⟩->W ⟨P,N,S,w,R,none,[]⟩ [c] ⟨enum 0 args,XG⟩ (zM ⟨P,N,S,w,R,none,[]⟩ fn res VC)):UT P f args XG res VC:=by
 intro S w vs ρ ZW s8 hv;refine(callsIn_wide (n:=0)).1 (callsIn_of_wp_marks hf hb trivial ?_);have G:=Gg hv;have hle:=p8 hle;have B:St ⟨P,N,S,w,mL ρ XG,none,[]⟩ ⟨enum 0 args,XG⟩ { tmps:=vs.toArray++Array.replicate (fn.ntmps - vs.toArray.size) undef,defers:=[] } w:= ?_
 ·have z:c.wpIn Fence.wide 0 P (Exit.then (run Fence.wide P (zM ⟨P,N,S,w,mL ρ XG,none,[]⟩ fn res VC) []) (zM ⟨P,N,S,w,mL ρ XG,none,[]⟩ fn res VC)) { tmps:=vs.toArray++Array.replicate (fn.ntmps - vs.toArray.size) undef,defers:=[] } w:=h S w _ (.refl ZW rfl) _ w B;refine wpIn_mono z ?_;intro e a H D;cases e<;>exact D
 ·refine⟨⟨ρ,⟨ZW,XZ _,fun _ _ _=>rfl,rfl,rfl,rfl,s8.own,fun i A b h hb=>⟨.inr ⟨i,A,h,hb⟩,s8.lt i A b h hb⟩,s8.inj,s8.apart⟩,fun t s E=>?_⟩,?_,rfl⟩
  ·obtain⟨_,u,z,F⟩:=Lk args vs 0 hv t s E;have C:t<vs.length:=by
    rcases J0 t vs.length with h | h
    ·exact h
    ·simp[V4 h] at z
   have:(vs.toArray++Array.replicate (fn.ntmps - vs.toArray.size) undef).getD t undef=u:=by
    simp only[my];rw[aDl (by simpa using C)];simp only[Nat.sub_zero] at z;simp[z]
   rw[this];exact F
  ·simp only[aEh,aEi,aD7];show _=N;omega
theorem bw.l8{F:WK}{σ:AS}{ρ:Nat->LV}{w:World}{v:Value}{res:Slot}{VC:List (Nat×UU)}(hc:Core F σ.d ρ w)(hr:res.ok ρ (Un F.S0 ρ σ.d) w v)(hn:w5 VC σ.d):bw F.S0 F.R F.w0 res VC ρ v w:=by
 have z:=hn.spec
 have B:Ext (Un F.S0 ρ σ.d) (Un F.S0 ρ VC) w w:=⟨XZ _,fun k _ D=>⟨rfl,fun h=>D (by
  rcases h with h |⟨i,u,K,L⟩
  ·exact .inl h
  ·exact .inr ⟨i,u,z i u K,L⟩)⟩⟩
 exact⟨hc.size,hc.frame,hc.os,hc.tape,hc.output,Slot.UR res v hr B (fun _ _=>rfl),fun i u h=>UU.UR (hc.own i u (z i u h)) B (fun _ _=>rfl) (fun _ _=>rfl),
  fun i u b h A=>hc.fresh i u b (z i u h) A,fun i u b h A=>hc.apart i u b (z i u h) A,fun i j u C b E G H I=>hc.inj i j u C b (z i u E) (z j C G) H I⟩
theorem To{P:Program}{fn:Func}{a:Act}{w:World}(r7:fn.results= #[]):(results fn a.tmps).run P w= .ok (.tuple #[]) w:=by rw[wZ,r7];simp
section
variable {F F':WK}{σ:AS}{fn:Func}{rv ft zk:ResultVar}{res s s' s2:Slot}{VC:List (Nat×UU)}
theorem FB(hF:R3 F F')(r7:fn.results= #[])(hn:w5 VC σ.d):XQ F' σ (zM F fn (.VO []) VC) .ret:=
 yE hF fun ρ a w h u=>⟨_,To r7,_,ρ,rfl,bw.l8 h (by simp only[Slot.ok];exact⟨[],rfl,by simp only[aX]⟩) hn⟩
theorem eH(hF:R3 F F')(r7:fn.results= #[rv])(h:RV F σ rv res)(hn:w5 VC σ.d):XQ F' σ (zM F fn res VC) .ret:=
 yE hF fun ρ a w u z=>by
  obtain⟨v,A,B⟩:=h ρ a w u z;exact⟨v,Th r7 A,v,ρ,rfl,bw.l8 u B hn⟩
theorem eZ(hF:R3 F F')(r7:fn.results= #[rv,ft])(h:RV F σ rv s)(h':RV F σ ft s')(hn:w5 VC σ.d):XQ F' σ (zM F fn (.VO [s,s']) VC) .ret:=
 yE hF fun ρ a w u z=>by
  obtain⟨v,A,B⟩:=h ρ a w u z;obtain⟨E,C,D⟩:=h' ρ a w u z;exact⟨_,Ti r7 A C,_,ρ,rfl,bw.l8 u (QS B D) hn⟩
theorem FC(hF:R3 F F')(r7:fn.results= #[rv,ft,zk])(h:RV F σ rv s)(h':RV F σ ft s')(h'':RV F σ zk s2)(hn:w5 VC σ.d):XQ F' σ (zM F fn (.VO [s,s',s2]) VC) .ret:=
 yE hF fun ρ a w u z=>by
  obtain⟨v,A,B⟩:=h ρ a w u z;obtain⟨H,C,D⟩:=h' ρ a w u z;obtain⟨I,E,G⟩:=h'' ρ a w u z;exact⟨_,Tj r7 A C E,_,ρ,rfl,bw.l8 u (QT B D G) hn⟩
end
end Go.Sw
namespace Go.Sw
open Go Go.RowKit
inductive q7 (σ:AS) (r:Nat->Nat) (A:Nat->Nat):List (Nat×UU)->Prop
 |nil:q7 σ r A []
 |box {i:Nat} {T:TypeId} {l:List Slot} {pb:Option Nat} {ds:List (Nat×UU)}:aW σ.d (r i)=some (.box T (fH r l) pb)->q7 σ r A ds->q7 σ r A ((i,.box T l (some (A i)))::ds)
 |arr {α:Type} {i:Nat} {T:TypeId} {e:Wr α} {xs:List α} {ds:List (Nat×UU)}:aW σ.d (r i)=some (.arr T e xs)->q7 σ r A ds->q7 σ r A ((i,.arr T e xs)::ds)
 |mp {α β:Type} {i:Nat} {e:Wr α} {f:Wr β} {m:List (α×β)} {ds:List (Nat×UU)}:aW σ.d (r i)=some (.mp e f m)->q7 σ r A ds->q7 σ r A ((i,.mp e f m)::ds)
 |dp {α:Type} {i:Nat} {D:DE α} {x:α} {l:List Nat} {ds:List (Nat×UU)}:aW σ.d (r i)=some (.dp D x (l.map r))->q7 σ r A ds->q7 σ r A ((i,.dp D x l)::ds)
theorem q7.spec{σ:AS}{r:Nat->Nat}{A:Nat->Nat}{ds:List (Nat×UU)}(h:q7 σ r A ds){ρ:Nat->LV}{S:Nat->Prop}{w:World}(ho:∀i en,aW σ.d i=some en->en.ok ρ S w (ρ i))(hA:∀i b,(ρ (r i)).v= .pointer (some ⟨b,0,none⟩)->A i=b):
  ∀i en,aW ds i=some en->(∃YF,aW σ.d (r i)=some YF)/\en.ok (fun i=>ρ (r i)) S w (ρ (r i)):=by
 induction h with
 |nil=>intro i en h;simp[aW] at h
 |box u _ B=>
  rename_i j T l G ds _;intro i en h;rw[cJ] at h;split at h
  ·rename_i z;subst z;cases h;have F:=ho _ _ u;refine⟨⟨_,u⟩,?_⟩;have C:((UU.box T l G).map r).ok ρ S w (ρ (r j)):=F;rw[Gj] at C;obtain⟨⟨b,I,E,K,L⟩,_⟩:=C;exact⟨⟨b,I,E,K,L⟩,fun c H=>by cases H;rw[E,hA j b E]⟩
  ·exact B i en h
 |arr u _ B=>
  rename_i j T e xs ds _;intro i en h;rw[cJ] at h;split at h
  ·rename_i z;subst z;cases h;exact⟨⟨_,u⟩,ho _ _ u⟩
  ·exact B i en h
 |mp u _ B=>
  rename_i j e f m ds _;intro i en h;rw[cJ] at h;split at h
  ·rename_i z;subst z;cases h;exact⟨⟨_,u⟩,ho _ _ u⟩
  ·exact B i en h
 |dp u _ B=>
  rename_i j D x l ds _;intro i en h;rw[cJ] at h;split at h
  ·rename_i z;subst z;cases h;refine⟨⟨_,u⟩,?_⟩;have C:((UU.dp D x l).map r).ok ρ S w (ρ (r j)):=ho _ _ u
   rwa [Gj] at C
  ·exact B i en h
def iD(l:Nat):List Nat->Bool
 | []=>false
 |i::r=>bif Nat.beq i l then true else iD l r
theorem iW{l:Nat}:∀{r:List Nat},iD l r=true↔l∈r
 | []=>by simp[iD]
 |i::r=>by
  simp only[iD];cases hb:Nat.beq i l with
  |true=>have:=o5 hb;subst this;simp
  |false=>
   have:l≠i:=fun e=>by subst e;simp at hb
   simp[iW,this]
inductive YJ (σ:AS) (r:Nat->Nat) (A:Nat->Nat):List (Nat×UU)->List (Nat×UU)->List Nat->Prop
 |nil:YJ σ r A [] [] []
 |box {i:Nat} {T T0:TypeId} {l l0:List Slot} {pb:Option Nat} {ds D:List (Nat×UU)} {K:List Nat}:aW σ.d (r i)=some (.box T0 l0 pb)->YJ σ r A ds D K->iD (r i) K=false->YJ σ r A ((i,.box T l (some (A i)))::ds) ((r i,.box T (fH r l) pb)::D) (r i::K)
 | O4 {i:Nat} {T:TypeId} {l:List Slot} {ds D:List (Nat×UU)} {K:List Nat}:YJ σ r A ds D K->iD (r i) K=false->YJ σ r A ((i,.box T l none)::ds) ((r i,.box T (fH r l) none)::D) K
 |arr {α:Type} {i:Nat} {T:TypeId} {e:Wr α} {xs:List α} {ds D:List (Nat×UU)} {K:List Nat}:YJ σ r A ds D K->iD (r i) K=false->YJ σ r A ((i,.arr T e xs)::ds) ((r i,.arr T e xs)::D) K
 |mp {α β:Type} {i:Nat} {e:Wr α} {f:Wr β} {m:List (α×β)} {ds D:List (Nat×UU)} {K:List Nat}:YJ σ r A ds D K->iD (r i) K=false->YJ σ r A ((i,.mp e f m)::ds) ((r i,.mp e f m)::D) K
 |dp {α:Type} {i:Nat} {E:DE α} {x:α} {l:List Nat} {ds D:List (Nat×UU)} {K:List Nat}:YJ σ r A ds D K->iD (r i) K=false->YJ σ r A ((i,.dp E x l)::ds) ((r i,.dp E x (l.map r))::D) K
theorem YJ.spec{σ:AS}{r:Nat->Nat}{A:Nat->Nat}{ds D:List (Nat×UU)}{K:List Nat}(h:YJ σ r A ds D K)(aYv:∀i j,r i=r j->i=j):
  (∀l en',aW D l=some en'->∃i en,l=r i/\aW ds i=some en/\(en'=en.map r\/∃T T0 m l0 pb,en= .box T m (some (A i))/\en'= .box T (fH r m) pb/\aW σ.d (r i)=some (.box T0 l0 pb)))/\
  (∀i en,aW ds i=some en->∃en',aW D (r i)=some en')/\(∀k∈K,∃i T m T0 l0 pb,k=r i/\aW ds i=some (.box T m (some (A i)))/\aW σ.d k=some (.box T0 l0 pb)):=by
 have step:∀{i:Nat} {en en':UU} {ds D:List (Nat×UU)},((∀l en',aW D l=some en'->∃i en,l=r i/\aW ds i=some en/\(en'=en.map r\/∃T T0 m l0 pb,en= .box T m (some (A i))/\en'= .box T (fH r m) pb/\aW σ.d (r i)=some (.box T0 l0 pb)))/\(∀i en,aW ds i=some en->∃en',aW D (r i)=some en'))->
   (en'=en.map r\/∃T T0 m l0 pb,en= .box T m (some (A i))/\en'= .box T (fH r m) pb/\aW σ.d (r i)=some (.box T0 l0 pb))->
   ((∀l B,aW ((r i,en')::D) l=some B->∃j C,l=r j/\aW ((i,en)::ds) j=some C/\(B=C.map r\/∃T T0 m l0 pb,C= .box T m (some (A j))/\B= .box T (fH r m) pb/\aW σ.d (r j)=some (.box T0 l0 pb)))/\
    (∀j C,aW ((i,en)::ds) j=some C->∃B,aW ((r i,en')::D) (r j)=some B)):=by
  rintro i en en' ds D ⟨U,V⟩ X;refine⟨fun l B H=>?_,fun j C M=>?_⟩
  ·rw[cJ] at H;split at H
   ·rename_i I;subst I;cases H;exact⟨i,en,rfl,by rw[cJ,VX rfl],X⟩
   ·rename_i I;obtain⟨j,C,rfl,P,Q⟩:=U l B H;exact⟨j,C,rfl,by rw[cJ,VN (fun e=>I (by rw[e]))];exact P,Q⟩
  ·rw[cJ] at M;split at M
   ·rename_i L;subst L;exact⟨en',by rw[cJ,VX rfl]⟩
   ·rename_i L;obtain⟨B,R⟩:=V j C M;exact⟨B,by rw[cJ,VN (fun e=>L (aYv _ _ e))];exact R⟩
 have G:∀{i:Nat} {en:UU} {ds:List (Nat×UU)} {K:List Nat},iD (r i) K=false->(∀k∈K,∃i T m T0 l0 pb,k=r i/\aW ds i=some (.box T m (some (A i)))/\aW σ.d k=some (.box T0 l0 pb))->∀k∈K,∃j T m T0 l0 pb,k=r j/\aW ((i,en)::ds) j=some (.box T m (some (A j)))/\aW σ.d k=some (.box T0 l0 pb):=by
  intro i en ds K z u k F;obtain⟨j,T,m,T0,l0,pb,rfl,h,S⟩:=u k F;have O:i≠j:=fun e=>by subst e;rw[iW.2 F] at z;cases z
  exact⟨j,T,m,T0,l0,pb,rfl,by rw[cJ,VN O];exact h,S⟩
 induction h with
 |nil=>exact⟨fun l en h=>by simp[aW] at h,fun i en h=>by simp[aW] at h,fun k h=>by simp at h⟩
 |box N _ z u=>
  rename_i i T T0 l l0 pb ds D K _;obtain⟨a,b⟩:=step (i:=i) (en:= .box T l (some (A i))) (en':= .box T (fH r l) pb) ⟨u.1,u.2.1⟩ (.inr ⟨T,T0,l,l0,pb,rfl,rfl,N⟩);refine⟨a,b,fun k F=>?_⟩;rcases j4.1 F with rfl | F
  ·exact⟨i,T,l,T0,l0,pb,rfl,by rw[cJ,VX rfl],N⟩
  ·exact G z u.2.2 k F
 | O4 _ z u=>
  rename_i i T l ds D K _;obtain⟨a,b⟩:=step (i:=i) (en:= .box T l none) (en':= .box T (fH r l) none) ⟨u.1,u.2.1⟩ (.inl rfl);exact⟨a,b,G z u.2.2⟩
 |arr _ z u=>
  rename_i α i T e xs ds D K _;obtain⟨a,b⟩:=step (i:=i) (en:= .arr T e xs) (en':= .arr T e xs) ⟨u.1,u.2.1⟩ (.inl rfl);exact⟨a,b,G z u.2.2⟩
 |mp _ z u=>
  rename_i α β i e f m ds D K _;obtain⟨a,b⟩:=step (i:=i) (en:= .mp e f m) (en':= .mp e f m) ⟨u.1,u.2.1⟩ (.inl rfl);exact⟨a,b,G z u.2.2⟩
 |dp _ z u=>
  rename_i α i E x l ds D K _;obtain⟨a,b⟩:=step (i:=i) (en:= .dp E x l) (en':= .dp E x (l.map r)) ⟨u.1,u.2.1⟩ (.inl rfl);exact⟨a,b,G z u.2.2⟩
def iU(d:List (Nat×UU)):List Nat->List (Nat×UU)
 | []=>d
 |i::H=>vU (iU d H) i
theorem pY{d:List (Nat×UU)}{k:Nat}:∀{H:List Nat},aW (iU d H) k=if k∈H then none else aW d k
 | []=>by simp[iU]
 |i::H=>by
  rw[iU,Kr];by_cases h:k=i
  ·simp[h]
  ·rw[VN h,pY];simp[h]
def Av(g:List (Nat×Slot))(rest:List (Nat×UU))(H K:List Nat)(D:List (Nat×UU)):Bool:=
 (g.all fun y=>y.2.XO.all fun l=> !iD l H || iD l K || !iD l (D.map (·.1))) && rest.all fun y=>y.2.XO.all fun l=> !iD l H || iD l K || !iD l (D.map (·.1))
def Og(σ:AS)(H:List Nat)(D:List (Nat×UU)):Bool:=
 D.all fun x=>iD x.1 H || ((σ.d.all fun y=> !Nat.beq y.1 x.1 && !iD x.1 y.2.XO) && σ.g.all fun y=> !iD x.1 y.2.XO)
inductive r5 (σ:AS) (r:Nat->Nat):List Operand->List Slot->Prop
 |nil:r5 σ r [] []
 |cons {x:Operand} {s:Slot} {xs:List Operand} {l:List Slot}:Arg σ false x (s.map r)->r5 σ r xs l->r5 σ r (x::xs) (s::l)
theorem r5.spec{σ:AS}{r:Nat->Nat}{xs:List Operand}{l:List Slot}(h:r5 σ r xs l){ρ S a w}{ys:Array Operand}(Y2:∀x∈xs,x∈ys)(K:j6 σ ys ρ S a w):aX (fun i=>ρ (r i)) S w l (xs.map a.eval):=by
 induction h with
 |nil=>simp[aX]
 |cons z _ A=>
  rename_i x s xs l _;simp only[aX,D9];refine⟨_,_,rfl,?_,A fun y u=>Y2 y (X4 _ u)⟩;rw[<-Ln];exact z ρ S a w ⟨K.low,fun y u=>K.slot y (by simp at u;subst u;exact Y2 _ X5),fun y u=>K.w7 y (by simp at u;subst u;exact Y2 _ X5)⟩
def e9(v:Value):Nat:=match v with | .pointer (some a)=>a.block | _=>0
section
variable {F:WK}{σ:AS}{s:Slot}{d:Option Tmp}{ty:TypeId}{p:String}{af:Array Edge}{gd:Option (Nat×Bool)}
theorem St.F1{ρ ρ':Nat->LV}{r:Nat->Nat}{A:Nat->Nat}{a:Act}{w w':World}{v:Value}{res:Slot}{XG VC D:List (Nat×UU)}{K H:List Nat}(hr:∀i j,r i=r j->i=j)(hc:Core F σ.d ρ w)
  (hs:∀t s,lk σ.g t=some s->s.ok ρ (Un F.S0 ρ σ.d) w (a.tmps.getD t undef)) (hz:a.tmps.size=F.N) (YE:a.defers=F.df) (hA:∀i b,(ρ (r i)).v= .pointer (some ⟨b,0,none⟩)->A i=b) (s8:q7 σ r A XG) (A4:YJ σ r A VC D K)
  (hH:XG.map (fun x=>r x.1)=H) (XI:Av σ.g (iU σ.d H) H K D=true) (L0:Og σ H D=true) (XP:kO res VC=true) (fm:K.all (fun k=>iD k H)=true) (ZC:hO d F.N=true)
  (ho:bw (fun k=>Un F.S0 ρ σ.d k/\¬mL (fun i=>ρ (r i)) XG k) (mL (fun i=>ρ (r i)) XG) w res VC ρ' v w'):St F ⟨iV d (res.map r) σ.g,D++iU σ.d H⟩ (a.put d v) w':=by
 obtain⟨aa,a5,a6⟩:=A4.spec hr;have am:=s8.spec hc.own hA;have an:∀i en,aW XG i=some en->r i∈H:=fun i en h=>by rw[<-hH];exact ah.2 ⟨(i,en),mM h,rfl⟩
 have ao:∀l,l∈H->∃i en,l=r i/\(i,en)∈XG:=fun l h=>by rw[<-hH] at h;obtain⟨x,B,z⟩:=ah.1 h;exact⟨x.1,x.2,z.symm,B⟩
 have a8:∀l,l∈H->∃i en,l=r i/\aW XG i=some en:=fun l h=>by
  obtain⟨i,en,B,z⟩:=ao l h;cases hx:aW XG i with
  |some e=>exact⟨i,e,B,hx⟩
  |none=>
   exfalso;clear s8 am hH ho an ao
   induction XG with
   |nil=>simp at z
   |cons y XG ih=>
    obtain⟨j,ej⟩:=y;rw[cJ] at hx;split at hx
    ·cases hx
    ·rename_i N6;rcases j4.1 z with z | z
     ·simp at z;exact N6 z.1.symm
     ·exact ih z hx
 have p4:∀k,mL (fun i=>ρ (r i)) XG k->∃l en,l∈H/\aW σ.d l=some en/\qO (ρ l) k:=by
  rintro k ⟨i,en,B,z⟩;obtain⟨⟨YF,u⟩,_⟩:=am i en B;exact⟨r i,YF,an i en B,u,z⟩
 have ap:∀k,mL (fun i=>ρ (r i)) XG k->Un F.S0 ρ σ.d k:=fun k h=>by obtain⟨l,en,_,B,z⟩:=p4 k h;exact .inr ⟨l,en,B,z⟩
 have ZG:∀l en k,l∉H->aW σ.d l=some en->qO (ρ l) k->¬mL (fun i=>ρ (r i)) XG k:=by
  intro l en k Q B z u;obtain⟨M,C,E,G,L⟩:=p4 k u;exact Q (hc.inj l M en C k B G z L ▸ E)
 classical
 let ρn:Nat->LV:=fun l=>if h:∃i,l=r i/\(aW VC i).isSome=true then ρ' (Classical.choose h) else ρ l
 have R:∀i en,aW VC i=some en->ρn (r i)=ρ' i:=by
  intro i en h;have ad:∃j,r i=r j/\(aW VC j).isSome=true:=⟨i,rfl,by rw[h];rfl⟩;show (if h:∃j,r i=r j/\(aW VC j).isSome=true then ρ' (Classical.choose h) else ρ (r i))=_;rw[dif_pos ad];have:=aD2 ad;rw[<-hr _ _ this.1]
 have gm:∀l,(∀en,aW D l≠some en)->ρn l=ρ l:=by
  intro l h;have ad:¬∃i,l=r i/\(aW VC i).isSome=true:=by
   rintro⟨i,rfl,z⟩;cases hx:aW VC i with
   |none=>rw[hx] at z;cases z
   |some en=>obtain⟨C,u⟩:=a5 i en hx;exact h _ u
  show (if h:∃i,l=r i/\(aW VC i).isSome=true then ρ' (Classical.choose h) else ρ l)=_;rw[dif_neg ad]
 have hK:∀l,l∈K->(ρn l).v=(ρ l).v:=by
  intro l Q;obtain⟨i,T,m,T0,l0,pb,rfl,B,z⟩:=a6 l Q;have ax:=(ho.own i _ B).2 (A i) rfl;obtain⟨⟨b,cs,X,_⟩,_⟩:=hc.own _ _ z;rw[R i _ B,ax,X,hA i b X]
 have ay:∀l,iD l (D.map (·.1))=false->∀en,aW D l≠some en:=fun l h en S=>by
  have B:l∈D.map (·.1):=ah.2 ⟨(l,en),mM S,rfl⟩;rw[iW.2 B] at h;cases h
 have p5:∀(q:Slot),(q.XO.all fun l=> !iD l H || iD l K || !iD l (D.map (·.1)))=true->(∀l∈q.XO,aW D l=none\/iD l H=true)->mJ ρ ρn q.XO:=by
  intro q B z l Q;rcases z l Q with u | u
  ·exact congrArg LV.v (gm l fun en S=>by rw[u] at S;cases S)
  ·have:=ZR.1 B l Q;rw[u] at this;cases hm:iD l (D.map (·.1)) with
   |false=>exact congrArg LV.v (gm l (ay l hm))
   |true=>rw[hm] at this;exact hK l (iW.1 (by simpa using this))
 have qp:∀l en,aW D l=some en->iD l H=true\/((∀y∈σ.d,y.1≠l/\l∉y.2.XO)/\∀y∈σ.g,l∉y.2.XO):=by
  intro l en h;have:=ZR.1 L0 _ (mM h);rcases Bool.or_eq_true_iff.1 this with h | h
  ·exact .inl h
  ·rw[B9,ZR,ZR] at h;refine .inr ⟨fun y hy=>?_,fun y hy L5=>?_⟩
   ·have u:=h.1 y hy;rw[B9] at u;refine⟨fun e=>?_,fun L5=>?_⟩
    ·have:=u.1;rw[e] at this;simp at this
    ·have:=u.2;rw[iW.2 L5] at this;cases this
   ·have:=h.2 y hy;rw[iW.2 L5] at this;cases this
 simp only[Av,B9,ZR] at XI;have ub:∀t s,lk σ.g t=some s->mJ ρ ρn s.XO:=by
  intro t s O;refine p5 s (ZR.2 (XI.1 _ (Lj O))) fun l Q=>?_;cases hx:aW D l with
  |none=>exact .inl rfl
  |some en=>
   rcases qp l en hx with h |⟨_,h⟩
   ·exact .inr h
   ·exact absurd Q (h _ (Lj O))
 have K9:∀l en,l∉H->aW σ.d l=some en->ρn l=ρ l/\mJ ρ ρn en.XO:=by
  intro l en Q h;refine⟨gm l fun C S=>?_,?_⟩
  ·rcases qp l C S with P |⟨P,_⟩
   ·exact Q (iW.1 P)
   ·exact(P _ (mM h)).1 rfl
  ·have XN:(l,en)∈iU σ.d H:=mM (by rw[pY,VN Q];exact h);have:=XI.2 _ XN;intro q hq;have B:=this q hq;cases hx:aW D q with
   |none=>exact congrArg LV.v (gm q fun en S=>by rw[hx] at S;cases S)
   |some C=>
    rcases qp q C hx with P |⟨P,_⟩
    ·have q8:q∈D.map (·.1):=ah.2 ⟨(q,C),mM hx,rfl⟩;rw[P,iW.2 q8] at B;exact hK q (iW.1 (by simpa using B))
    ·exact absurd hq (P _ (mM h)).2
 have L3:∀l en,aW (D++iU σ.d H) l=some en->aW D l=some en\/(aW D l=none/\l∉H/\aW σ.d l=some en):=by
  intro l en h;rw[gJ] at h;cases hx:aW D l with
  |some e=>rw[hx] at h;simp at h;subst h;exact .inl rfl
  |none=>
   rw[hx] at h;simp only[Option.none_or,pY] at h;split at h
   ·cases h
   ·rename_i hn;exact .inr ⟨rfl,hn,h⟩
 have aq:∀k,Un F.S0 ρn (D++iU σ.d H) k->Un (fun k=>Un F.S0 ρ σ.d k/\¬mL (fun i=>ρ (r i)) XG k) ρ' VC k:=by
  rintro k (h |⟨l,en,B,z⟩)
  ·refine .inl ⟨.inl h,fun P=>?_⟩;obtain⟨l,en,_,u,E⟩:=p4 k P;exact hc.apart l en k u E h
  ·rcases L3 l en B with u |⟨_,u,E⟩
   ·obtain⟨i,C,rfl,G,_⟩:=aa l en u;rw[R i C G] at z;exact .inr ⟨i,C,G,z⟩
   ·rw[(K9 l en u E).1] at z;exact .inl ⟨.inr ⟨l,en,E,z⟩,ZG l en k u E z⟩
 have a0:∀k,k<w.heap.size->Un (fun k=>Un F.S0 ρ σ.d k/\¬mL (fun i=>ρ (r i)) XG k) ρ' VC k->Un F.S0 ρ σ.d k:=by
  rintro k U (h |⟨i,en,B,z⟩)
  ·exact h.1
  ·rcases (ho.fresh i en k B z).1 with h | h
   ·omega
   ·exact ap k h
 have au:Ext (Un (fun k=>Un F.S0 ρ σ.d k/\¬mL (fun i=>ρ (r i)) XG k) ρ' VC) (Un F.S0 ρn (D++iU σ.d H)) w' w':=⟨XZ _,fun k _ U=>⟨rfl,fun h=>U (aq k h)⟩⟩;have hE:Ext (Un F.S0 ρ σ.d) (Un F.S0 ρn (D++iU σ.d H)) w w':=⟨ho.size,fun k U hn=>⟨ho.frame k U (fun h=>hn (ap k h)),fun h=>hn (a0 k U (aq k h))⟩⟩;simp only[kO,B9,ZR] at XP;have Z7:∀i en,aW VC i=some en->mJ ρ' (fun i=>ρn (r i)) en.XO:=by
  intro i en h j hj;have:=XP.2 _ (mM h) j hj;cases hx:aW VC j with
  |none=>rw[hx] at this;cases this
  |some e=>exact congrArg LV.v (R j e hx)
 have a1:Core F (D++iU σ.d H) ρn w':=by
  refine⟨hc.low,ai hc.size ho.size,fun k U cw=>?_,ho.os.trans hc.os,ho.tape.trans hc.tape,ho.output.trans hc.output,fun l en h=>?_,fun l en b h I=>?_,fun l M en C b h P I V=>?_,fun l en b h I=>?_⟩
  ·rw[ho.frame k (O6 U hc.size) (fun h=>?_)]
   ·exact hc.frame k U cw
   ·obtain⟨l,en,_,B,z⟩:=p4 k h;rcases (hc.fresh l en k B z).1 with u | u
    ·omega
    ·exact cw u
  ·rcases L3 l en h with u |⟨_,u,E⟩
   ·obtain⟨i,C,rfl,G,L⟩:=aa l en u;have h7:=UU.UR (ρ':=fun i=>ρn (r i)) (ho.own i C G) au (Z7 i C G) (fun _ _=>rfl);rw[R i C G];rcases L with L |⟨T,T0,m,l0,pb,X,h9,O3⟩
    ·rw[L,Gj];exact h7
    ·subst X h9;obtain⟨im,il⟩:=h7;have a2:((UU.box T m none).map r).ok ρn (Un F.S0 ρn (D++iU σ.d H)) w' (ρ' i):=by rw[Gj];exact⟨im,fun c hc=>by cases hc⟩
     refine⟨a2.1,fun c a4=>?_⟩;obtain⟨_,a7⟩:=hc.own _ _ O3;have a3:=a7 c a4;rw[il (A i) rfl,hA i c a3]
   ·obtain⟨G,L⟩:=K9 l en u E;rw[G];exact UU.UR (hc.own l en E) hE L (fun b I=>ho.frame b (hc.fresh l en b E I).2 (ZG l en b u E I))
  ·rcases L3 l en h with u |⟨_,u,E⟩
   ·obtain⟨i,C,rfl,G,_⟩:=aa l en u;rw[R i C G] at I;obtain⟨L,h7⟩:=ho.fresh i C b G I;refine⟨?_,h7⟩;rcases L with L | L
    ·exact .inl (ai hc.size L)
    ·obtain⟨M,e',_,X,h9⟩:=p4 b L;exact(hc.fresh M e' b X h9).1
   ·rw[(K9 l en u E).1] at I;exact⟨(hc.fresh l en b E I).1,O6 (hc.fresh l en b E I).2 ho.size⟩
  ·have av:∀i ae l2 af,aW VC i=some ae->qO (ρ' i) b->l2∉H->aW σ.d l2=some af->qO (ρ l2) b->False:=by
    intro i ae l2 af B z u E G;rcases (ho.fresh i ae b B z).1 with L | L
    ·have:=(hc.fresh l2 af b E G).2;omega
    ·exact ZG l2 af b u E G L
   rcases L3 l en h with u |⟨_,u,E⟩
   ·obtain⟨i,e1,rfl,G,_⟩:=aa l en u;rw[R i e1 G] at I;rcases L3 M C P with fo |⟨_,fo,ac⟩
    ·obtain⟨i',ab,rfl,xw,_⟩:=aa M C fo;rw[R i' ab xw] at V;rw[ho.inj i i' e1 ab b G xw I V]
    ·rw[(K9 M C fo ac).1] at V;exact(av i e1 M C G I fo ac V).elim
   ·rw[(K9 l en u E).1] at I;rcases L3 M C P with fo |⟨_,fo,ac⟩
    ·obtain⟨i',ab,rfl,xw,_⟩:=aa M C fo;rw[R i' ab xw] at V;exact(av i' ab l en xw V u E I).elim
    ·rw[(K9 M C fo ac).1] at V;exact hc.inj l M en C b E ac I V
  ·rcases L3 l en h with u |⟨_,u,E⟩
   ·obtain⟨i,C,rfl,G,_⟩:=aa l en u;rw[R i C G] at I;intro L;refine ho.apart i C b G I ⟨.inl L,fun h7=>?_⟩;obtain⟨M,e',_,X,h9⟩:=p4 b h7;exact hc.apart M e' b X h9 L
   ·rw[(K9 l en u E).1] at I;exact hc.apart l en b E I
 refine⟨⟨ρn,a1,fun t q O=>?_⟩,by rw[kM,hz],by cases d<;>exact YE⟩;have aw:∀t q,lk σ.g t=some q->q.ok ρn (Un F.S0 ρn (D++iU σ.d H)) w' (a.tmps.getD t undef):=fun t q O=>Slot.UR q _ (hs t q O) hE (ub t q O);cases d with
 |none=>exact aw t q O
 |some q0=>
  simp only[iV] at O;have WJ:q0<a.tmps.size:=by rw[hz];exact p8 ZC
  rw[kN a q0 v t WJ];rw[lW] at O;split at O
  ·rename_i B;cases O;rw[VX B,Ln];refine Slot.UR res v ho.slot au fun j hj=>?_;have:=XP.1 j hj;cases hx:aW VC j with
   |none=>rw[hx] at this;cases this
   |some e=>exact congrArg LV.v (R j e hx)
  ·rename_i B;rw[VN B];exact aw t q O
theorem tW{f:FuncId}{xs:List Operand}{ts:Array TypeId}{ss:List Slot}{res:Slot}{XG VC:(Nat->Nat)->List (Nat×UU)}{D:List (Nat×UU)}{K H:List Nat}(r:Nat->Nat)(hr:∀i j,r i=r j->i=j)
  (hc:∀A,UT F.P f ss (XG A) res (VC A)) (XB:∀args w,(callFunc f args).run F.P w= .ok (.enter f args) w) (ha:r5 σ r xs ss) (s8:∀A,q7 σ r A (XG A)) (A4:∀A,YJ σ r A (VC A) D K)
  (hH:∀A,(XG A).map (fun x=>r x.1)=H) (XI:Av σ.g (iU σ.d H) H K D=true) (L0:Og σ H D=true) (XP:∀A,kO res (VC A)=true) (fm:K.all (fun k=>iD k H)=true) (ZC:hO d F.N=true):
  JM F ⟨d,.call ⟨.value (.func f),xs.toArray,ts⟩,ty,p,af,gd⟩ σ ⟨iV d (res.map r) σ.g,D++iU σ.d H⟩:=by
 rintro a w ⟨⟨ρ,z,R⟩,hz,YE⟩;let A:Nat->Nat:=fun i=>e9 (ρ (r i)).v
 have O:∀i b,(ρ (r i)).v= .pointer (some ⟨b,0,none⟩)->A i=b:=fun i b h=>by show e9 (ρ (r i)).v=b;rw[h];rfl
 have B:=(s8 A).spec z.own O;have S:∀k,(Un F.S0 ρ σ.d k/\¬mL (fun i=>ρ (r i)) (XG A) k)->k<w.heap.size:=by
  rintro k ⟨h |⟨i,u,L,M⟩,_⟩
  ·exact O6 (z.low k h) z.size
  ·exact(z.fresh i u k L M).2
 have Q:Un (fun k=>Un F.S0 ρ σ.d k/\¬mL (fun i=>ρ (r i)) (XG A) k) (fun i=>ρ (r i)) (XG A)=Un F.S0 ρ σ.d:=by
  funext k;refine propext ⟨fun h=>?_,fun h=>?_⟩
  ·rcases h with h |⟨i,u,L,M⟩
   ·exact h.1
   ·obtain⟨⟨I,C⟩,_⟩:=B i u L;exact .inr ⟨r i,I,C,M⟩
  ·by_cases E:mL (fun i=>ρ (r i)) (XG A) k
   ·exact .inr E
   ·exact .inl ⟨h,E⟩
 have T:Ins (fun k=>Un F.S0 ρ σ.d k/\¬mL (fun i=>ρ (r i)) (XG A) k) (fun i=>ρ (r i)) w (XG A):=by
  refine⟨fun i u h=>?_,fun i u b h G=>?_,fun i u b h G V=>V.2 ⟨i,u,h,G⟩,fun i j u X b hi hj bi bj=>?_⟩
  ·rw[Q];exact(B i u h).2
  ·obtain⟨⟨I,C⟩,_⟩:=B i u h;exact(z.fresh _ _ b C G).2
  ·obtain⟨⟨I,C⟩,_⟩:=B i u hi;obtain⟨⟨ae,h4⟩,_⟩:=B j X hj;exact hr _ _ (z.inj _ _ _ _ b C h4 bi bj)
 have K:=cI z R (Op.call ⟨.value (.func f),xs.toArray,ts⟩).operands;have U:=ha.spec (ys:=(Op.call ⟨.value (.func f),xs.toArray,ts⟩).operands) (fun x hx=>by simp[Op.operands,Call.operands,hx]) K;refine UX.enter (vI XB) ((hc A _ w _ _ S T (by rw[Q];exact U)).mono ?_);rintro e w' ⟨v,ρ',rfl,E⟩;exact⟨v,rfl,St.F1 hr z R hz YE O (s8 A) (A4 A) (hH A) XI L0 (XP A) fm ZC E⟩
end
def SK(a b i:Nat):Nat:=bif Nat.beq i a then b else bif Nat.beq i b then a else i
def Bv:List (Nat×Nat)->Nat->Nat
 | [],i=>i
 | (a,b)::l,i=>Bv l (SK a b i)
theorem Zm(a b i:Nat):SK a b (SK a b i)=i:=by
 unfold SK;cases h1:Nat.beq i a<;>cases h2:Nat.beq i b<;>simp only[WR,pF,h1,h2]
 all_goals first
  | (have:=o5 h1;subst this;cases h3:Nat.beq b i<;>simp_all [yn];done)
  | (have:=o5 h2;subst this;cases h3:Nat.beq a i<;>simp_all [yn];done)
  |simp_all
theorem eO:∀(l:List (Nat×Nat)) (i j:Nat),Bv l i=Bv l j->i=j
 | [],_,_,h=>h
 | (a,b)::l,i,j,h=>by
  have:=eO l _ _ h;rw[<-Zm a b i,this,Zm]
end Go.Sw
