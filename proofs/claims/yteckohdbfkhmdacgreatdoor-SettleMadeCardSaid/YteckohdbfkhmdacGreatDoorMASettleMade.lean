/- The library over the model: how values lie, what is ours in memory, rules for operations, calls, loops. Conditions: none. -/
import Derived.Orders
import Derived.Tactics
import Derived.Below
import Derived.TacticsIn
import Derived.OrdersIn
import Derived.Laws.Rows
import Derived.RangeFuncRecord
import Derived.Laws.StructEq
import Derived.Laws.AppendOwn
import Derived.Laws.CopyRow
import Derived.Laws.MakeOwn
import Derived.Laws.Tables
import Derived.ChangeKeysEq
import Derived.Laws.Cover3
set_option linter.unusedVariables false
set_option linter.unusedSimpArgs false
namespace Go.Sw
abbrev aAa:=Go.World
abbrev aAb:=Go.TypeId
abbrev aAc:=Go.Operand
abbrev aAd:=Go.Value
abbrev aAe:=Go.Program
abbrev aAf:=Go.FuncId
abbrev aAg:=Go.IntKind
abbrev aAh:=Go.Field
abbrev aAi:=Go.Oper
abbrev aAj:=Go.Code
abbrev aAk:=Go.Addr
abbrev aAl:=Go.Exit
abbrev aAm:=Go.Act
end Go.Sw
namespace Go.Sw
abbrev cM:=@Option.bind_some
abbrev pF:=@cond_false
abbrev pT:=@Option.some.inj
abbrev sM:=@List.length_append
abbrev p7:=@Option.isSome_none
abbrev YX:=@cond_true
abbrev D6:=@Nat.eq_of_beq_eq_true
abbrev n9:=@decide_eq_false
abbrev J0:=@List.getElem?_eq_getElem
abbrev E7:=@Nat.le_of_ble_eq_true
abbrev A5:=@Int.toNat_natCast
abbrev y8:=@List.all_eq_true
abbrev ZY:=@Nat.le_refl
abbrev XV:=@if_neg
abbrev E4:=@Option.some.injEq
abbrev V7:=@List.getD_eq_getElem?_getD
abbrev H7:=@List.append_assoc
abbrev B1:=@List.mem_cons
abbrev YC:=@if_pos
abbrev H6:=@List.length_cons
abbrev D5:=@decide_eq_true
abbrev I8:=@List.length_take
abbrev K0:=@Bool.and_eq_true
abbrev kt:=@List.eq_nil_of_length_eq_zero
abbrev dc:=@List.getElem?_eq_none
abbrev db:=@List.take_append_drop
abbrev V6:=@Bool.false_eq_true
abbrev X0:=@Nat.lt_of_lt_of_le
abbrev cz:=@List.mem_cons_of_mem
abbrev H3:=@decide_false
abbrev L4:=@List.map_cons
abbrev V8:=@Nat.mod_eq_of_lt
abbrev ed:=@Array.length_toList
abbrev dg:=@List.mem_cons_self
abbrev r5:=@if_false
abbrev S9:=@List.mem_append
abbrev Z2:=@List.length_drop
abbrev sf:=@Array.getD_eq_getD_getElem?
abbrev Z1:=@List.nil_append
abbrev Z0:=@List.foldl_cons
abbrev ak:=@List.length_nil
abbrev r7:=@if_true
abbrev cw:=@List.append_nil
abbrev V5:=@Prod.mk.injEq
abbrev R8:=@Nat.lt_or_ge
abbrev fy:=@List.cons_append
abbrev O8:=@Nat.add_mul
abbrev kr:=@Option.isNone_none
abbrev il:=@List.getElem_mem
abbrev sc:=@List.length_replicate
abbrev ye:=@Int.fdiv_eq_ediv_of_nonneg
abbrev oe:=@List.getElem?_map
abbrev sb:=@List.length_pos_iff
abbrev aBn:=@Array.getElem?_eq_some_iff
abbrev fx:=@List.mem_map
abbrev xj:=@Nat.mul_le_mul_right
abbrev xi:=@List.getElem?_set_ne
abbrev oc:=@List.length_map
abbrev ik:=@Nat.le_trans
abbrev aBt:=@Array.getElem?_eq_getElem
abbrev aBu:=@List.getElem?_append_left
abbrev aBv:=@Array.getElem?_eq_none
abbrev ny:=@List.mem_range
abbrev tu:=@Bool.not_eq_true'
abbrev fw:=@decide_true
abbrev lu:=@Bool.not_true
abbrev aB0:=@List.getElem?_set_self
abbrev tx:=@Nat.min_eq_left
abbrev tw:=@Option.map_some
abbrev xk:=@Bool.not_eq_true
abbrev aB4:=@List.filter_append
abbrev tv:=@List.drop_left
abbrev aB6:=@List.getElem?_modify
abbrev aB7:=@List.mem_of_getElem?
abbrev aB8:=@BitVec.toNat_ofNat
abbrev aB9:=@List.mem_singleton
abbrev aCa:=@List.take_of_length_le
abbrev aCb:=@List.getElem?_eq_some_iff
abbrev aCc:=@List.ext_getElem?
abbrev aCd:=@Nat.xor_lt_two_pow
abbrev aCe:=@Option.getD_some
abbrev aCf:=@List.length_eq_one_iff
abbrev yd:=@Bool.not_false
abbrev aCh:=@Array.toList_modify
abbrev aCi:=@Bool.or_eq_true
abbrev aCj:=@List.mem_filter
abbrev aCk:=@List.zipIdx_cons
abbrev pz:=@Nat.mod_lt
abbrev aCm:=@List.not_mem_nil
abbrev tr:=@Nat.one_mul
abbrev aCo:=@List.take_left
abbrev aCp:=@List.mem_of_mem_take
abbrev aCq:=@List.getElem?_set
abbrev aCr:=@List.map_append
abbrev aCs:=@List.length_set
abbrev aCt:=@List.mapM_cons
abbrev aCu:=@Nat.mul_le_mul
abbrev aCv:=@Option.isSome_some
abbrev aCw:=@List.length_singleton
abbrev aCx:=@List.length_filter_le
abbrev aCy:=@List.drop_eq_getElem_cons
abbrev aCz:=@List.mem_or_eq_of_mem_set
abbrev aC0:=@List.cons.injEq
abbrev aC1:=@not_true_eq_false
abbrev aC2:=@List.flatten_cons
abbrev aC3:=@decide_eq_true_eq
abbrev aC4:=@Nat.beq_refl
abbrev aC5:=@Nat.zero_add
abbrev aC6:=@List.foldl_append
abbrev aC7:=@Decidable.not_not
abbrev aC8:=@List.getElem_append_left
abbrev aC9:=@Bool.eq_false_or_eq_true
abbrev kq:=@Ne.symm
abbrev aDb:=@List.filter_eq_self
abbrev aDc:=@List.map_toArray
abbrev aDd:=@List.take_length
abbrev aDe:=@List.any_eq_true
abbrev aDf:=@Nat.and_two_pow_sub_one_eq_mod
abbrev aDg:=@Nat.add_comm
abbrev aDh:=@Nat.add_zero
abbrev aDi:=@List.mem_filterMap
abbrev aDj:=@Array.getElem?_setIfInBounds
abbrev aDk:=@List.singleton_append
abbrev aDl:=@Array.toList_push
abbrev aDm:=@of_decide_eq_true
abbrev aDn:=@Array.getElem?_append_left
abbrev aDo:=@Int.le_refl
abbrev aDp:=@List.mem_append_left
abbrev aDq:=@List.getElem?_append_right
abbrev aDr:=@Nat.mod_two_eq_zero_or_one
abbrev aDs:=@List.mem_of_mem_drop
abbrev aDt:=@List.replicate_succ
abbrev aDu:=@Nat.add_assoc
abbrev aDv:=@Nat.add_sub_cancel
abbrev aDw:=@List.getElem?_replicate
abbrev aDx:=@List.set_eq_take_append_cons_drop
abbrev aDy:=@List.mapM_toArray
abbrev aDz:=@List.drop_drop
abbrev aD0:=@List.drop_eq_nil_of_le
abbrev aD1:=@Array.all_eq_true_iff_forall_mem
abbrev aD2:=@List.map_nil
abbrev aD3:=@Nat.or_lt_two_pow
abbrev aD4:=@Classical.choose_spec
abbrev aD5:=@List.filter_cons
abbrev aD6:=@List.drop_append
abbrev aD7:=@List.mem_flatMap
abbrev aD8:=@List.eq_nil_iff_forall_not_mem
abbrev aD9:=@Array.size_replicate
abbrev aEa:=@true_and
abbrev aEb:=@Nat.pow_le_pow_right
abbrev aEc:=@Nat.shiftLeft_add_eq_or_of_lt
abbrev aEd:=@List.getElem_of_mem
abbrev aEe:=@Int.le_of_lt
abbrev aEf:=@Nat.mul_comm
abbrev aEg:=@List.idxOf_lt_length_of_mem
abbrev aEh:=@Nat.pow_succ
abbrev aEi:=@and_true
abbrev aEj:=@Array.foldl_toList
abbrev aEk:=@Nat.eq_zero_or_pos
abbrev aEl:=@or_false
abbrev aEm:=@Array.size_append
abbrev aEn:=@List.size_toArray
abbrev aEo:=@List.length_range
abbrev aEp:=@Nat.zero_le
abbrev aEq:=@List.any_eq_false
abbrev aEr:=@List.flatMap_cons
abbrev aEs:=@List.mapM_nil
abbrev aEt:=@Bool.true_and
abbrev aEu:=@BitVec.toNat_xor
abbrev aEv:=@BitVec.toNat_and
abbrev aEw:=@Option.getD_none
abbrev aEx:=@List.map_map
abbrev aEy:=@Int.tmod_nonneg
abbrev aEz:=@Int.pow_pos
abbrev aE0:=@not_true
abbrev aE1:=@or_self
end Go.Sw
namespace Go.Sw
open Go Go.RowKit
structure Ext (S S':Nat->Prop) (w w':aAa):Prop where
 size:w.heap.size<=w'.heap.size
 M1:∀k,k<w.heap.size->¬S k->w'.heap[k]? =w.heap[k]?/\¬S' k
theorem Ext.refl(S:Nat->Prop)(w:aAa):Ext S S w w:=⟨ZY _,fun _ _ h=>⟨rfl,h⟩⟩
theorem Ext.trans{S S' S'':Nat->Prop}{w w' sy:aAa}(h:Ext S S' w w')(k:Ext S' S'' w' sy):Ext S S'' w sy:=
 ⟨ik h.size k.size,fun i u z=>by
  obtain⟨a,b⟩:=h.M1 i u z;obtain⟨c,d⟩:=k.M1 i (X0 u h.size) b
  exact⟨c.trans a,d⟩⟩
structure Wr (α:Type) where
 n:Nat
 agg:Bool
 ok:α->(Nat->Prop)->aAa->List aAd->Prop
 len:∀{x S w cs},ok x S w cs->cs.length=n
 one:agg=false->n=1
 cell:∀{x S w cs},ok x S w cs->∀c∈cs,c.oneCell'=true
 mono:∀{x S S' w w' cs},ok x S w cs->Ext S S' w w'->ok x S' w' cs
theorem Se{v:aAd}(h:v.oneCell'=true):v.cells= #[v]:=by cases v<;>first | rfl | cases h
def Wr.pk{α:Type}(e:Wr α)(cs:List aAd):aAd:=if e.agg then .agg cs.toArray else cs.headD undef
def Wr.val{α:Type}(e:Wr α)(x:α)(S:Nat->Prop)(w:aAa)(v:aAd):Prop:=∃cs,e.ok x S w cs/\v=e.pk cs
theorem gT{α:Type}{e:Wr α}{x:α}{S S' w w' v}(h:e.val x S w v)(k:Ext S S' w w'):e.val x S' w' v:=
 let ⟨cs,a,b⟩:=h;⟨cs,e.mono a k,b⟩
inductive Slot:Type 1
 |v {α:Type} (e:Wr α) (x:α)
 |ref (i:Nat)
 |ptr (i off:Nat)
 |jc (i off k n:Nat)
 |el (i k n off:Nat)
 | D4 (i off lo n cap:Nat)
 |pv (i off n cap:Nat)
 |sub (i off n:Nat)
 | ZH {α:Type} (e:Wr α) (x:α)
 |o7 (g:Nat) (cap:List Slot)
 |top
 |agg (l:List Slot)
 | XU (l:List Slot)
def XK(w:aAa)(b off:Nat)(cs:List aAd):Prop:=
 ∃c T fr,w.heap[b]? =some (.cells c T fr)/\∀j (h:j<cs.length),c[off+j]? =some cs[j]
def j1(v:aAd):Option Nat:=match v with | .pointer (some a)=>some a.block | .slice (some a) _ _=>some a.block | .map (some r)=>some r | _=>none
def Ml(v:aAd)(n:Nat):aAd:=match v with | .slice (some a) _ _=> .pointer (some ⟨a.block,a.off+n,none⟩) | v=>v
def GX(v:aAd)(off n cap:Nat):aAd:=match v with | .pointer (some a)=> .slice (some ⟨a.block,off,none⟩) n cap | v=>v
def GY(v:aAd)(off n cap:Nat):aAd:=match v with | .slice (some a) _ _=> .slice (some ⟨a.block,a.off+off,none⟩) n cap | v=>v
def Up(v:aAd)(off n c:Nat):aAd:=match v with | .slice (some a) _ _=> .slice (some ⟨a.block,a.off+off,none⟩) n c | .slice none _ _=> .slice none n c | v=>v
def Dg(v:aAd)(n:Nat):aAd:=match v with | .pointer (some a)=> .pointer (some ⟨a.block,n,none⟩) | v=>v
structure LV where
 v:aAd
 x:Nat->Prop
def LV.of(v:aAd):LV:=⟨v,fun _=>False⟩
def qX(u:LV)(b:Nat):Prop:=j1 u.v=some b\/u.x b
theorem pN{v:aAd}{b:Nat}:qX (.of v) b↔j1 v=some b:=⟨fun h=>h.elim id False.elim,.inl⟩
def AT(v:aAd):Prop:=(∃a l c,v= .slice a l c)\/∃r,v= .map r
mutual
def Slot.j9(ρ:Nat->LV)(S:Nat->Prop)(w:aAa):Slot->List aAd->Prop
 | .v e x,h=>e.ok x S w h
 | .ref i,h=>AT (ρ i).v/\h=[(ρ i).v]
 | .ptr i off,h=>(∃b,(ρ i).v= .pointer (some ⟨b,0,none⟩))/\h=[Dg (ρ i).v off]
 | .jc i off k n,h=>(∃b,(ρ i).v= .pointer (some ⟨b,0,none⟩))/\h=[Dg (ρ i).v (off+k*n)]
 | .el i k n off,h=>(∃b o l c,(ρ i).v= .slice (some ⟨b,o,none⟩) l c)/\h=[Ml (ρ i).v (k*n+off)]
 | .D4 i off u n cap,h=>(∃b,(ρ i).v= .pointer (some ⟨b,0,none⟩))/\h=[GX (ρ i).v (off+u) n cap]
 | .pv i off n cap,h=>(∃b o l c,(ρ i).v= .slice (some ⟨b,o,none⟩) l c)/\h=[GY (ρ i).v off n cap]
 | .sub i off n,h=>(∃a l c,(ρ i).v= .slice a l c)/\∃c o,n<=c/\(o=off\/n=0)/\h=[Up (ρ i).v o n c]
 | .ZH e x,h=>∃b off ds,h=[.pointer (some ⟨b,off,none⟩)]/\b<w.heap.size/\¬S b/\XK w b off ds/\e.ok x S w ds
 | .o7 g cap,h=>∃vs,h=[.func (.func g) #[] vs.toArray]/\aX ρ S w cap vs
 | .top,h=>h=[undef]
 | .agg _,_=>False
 | .XU _,_=>False
def aX(ρ:Nat->LV)(S:Nat->Prop)(w:aAa):List Slot->List aAd->Prop
 | [],vs=>vs=[]
 |s::r,vs=>∃u M4,vs=u::M4/\Slot.ok ρ S w s u/\aX ρ S w r M4
def bO(ρ:Nat->LV)(S:Nat->Prop)(w:aAa):List Slot->List aAd->Prop
 | [],h=>h=[]
 |s::r,h=>∃c d,h=c++d/\Slot.j9 ρ S w s c/\bO ρ S w r d
def Slot.ok(ρ:Nat->LV)(S:Nat->Prop)(w:aAa):Slot->aAd->Prop
 | .v e x,u=>e.val x S w u
 | .ref i,u=>AT (ρ i).v/\u=(ρ i).v
 | .ptr i off,u=>(∃b,(ρ i).v= .pointer (some ⟨b,0,none⟩))/\u=Dg (ρ i).v off
 | .jc i off k n,u=>(∃b,(ρ i).v= .pointer (some ⟨b,0,none⟩))/\u=Dg (ρ i).v (off+k*n)
 | .el i k n off,u=>(∃b o l c,(ρ i).v= .slice (some ⟨b,o,none⟩) l c)/\u=Ml (ρ i).v (k*n+off)
 | .D4 i off h n cap,u=>(∃b,(ρ i).v= .pointer (some ⟨b,0,none⟩))/\u=GX (ρ i).v (off+h) n cap
 | .pv i off n cap,u=>(∃b o l c,(ρ i).v= .slice (some ⟨b,o,none⟩) l c)/\u=GY (ρ i).v off n cap
 | .sub i off n,u=>(∃a l c,(ρ i).v= .slice a l c)/\∃c o,n<=c/\(o=off\/n=0)/\u=Up (ρ i).v o n c
 | .ZH e x,u=>∃b off ds,u= .pointer (some ⟨b,off,none⟩)/\b<w.heap.size/\¬S b/\XK w b off ds/\e.ok x S w ds
 | .o7 g cap,u=>∃vs,u= .func (.func g) #[] vs.toArray/\aX ρ S w cap vs
 | .top,u=>u=undef
 | .agg l,u=>∃cs,u= .agg cs.toArray/\bO ρ S w l cs
 | .XU l,u=>∃vs,u= .tuple vs.toArray/\aX ρ S w l vs
end
def mU(ρ ρ':Nat->LV)(l:List Nat):Prop:=∀i∈l,(ρ' i).v=(ρ i).v
mutual
def Slot.ZR:Slot->List Nat
 | .ref i=>[i]
 | .ptr i _=>[i]
 | .jc i _ _ _=>[i]
 | .el i _ _ _=>[i]
 | .D4 i _ _ _ _=>[i]
 | .pv i _ _ _=>[i]
 | .sub i _ _=>[i]
 | .o7 _ l=>eC l
 | .agg l=>eC l
 | .XU l=>eC l
 |_=>[]
def eC:List Slot->List Nat
 | []=>[]
 |s::r=>s.ZR++eC r
end
theorem XK.mono{S S':Nat->Prop}{w w':aAa}{b off:Nat}{cs:List aAd}(h:XK w b off cs)(hb:b<w.heap.size)(hs:¬S b)(k:Ext S S' w w'):XK w' b off cs:=by
 obtain⟨c,T,u,z,A⟩:=h;exact⟨c,T,u,by rw[(k.M1 b hb hs).1];exact z,A⟩
section
variable {ρ ρ':Nat->LV}{S S':Nat->Prop}{w w':aAa}
mutual
theorem vV:∀(s:Slot) (cs:List aAd),s.j9 ρ S w cs->Ext S S' w w'->mU ρ ρ' s.ZR->s.j9 ρ' S' w' cs
 | .v e x,cs,h,k,_=>e.mono h k
 | .ref i,cs,h,_,a=>by simp only[Slot.j9] at h ⊢;rw[a i (by simp[Slot.ZR])];exact h
 | .ptr i u,cs,h,_,a=>by simp only[Slot.j9] at h ⊢;rw[a i (by simp[Slot.ZR])];exact h
 | .jc i u j n,cs,h,_,a=>by simp only[Slot.j9] at h ⊢;rw[a i (by simp[Slot.ZR])];exact h
 | .el i k n u,cs,h,_,a=>by simp only[Slot.j9] at h ⊢;rw[a i (by simp[Slot.ZR])];exact h
 | .D4 i u F n cap,cs,h,_,a=>by simp only[Slot.j9] at h ⊢;rw[a i (by simp[Slot.ZR])];exact h
 | .pv i u n cap,cs,h,_,a=>by simp only[Slot.j9] at h ⊢;rw[a i (by simp[Slot.ZR])];exact h
 | .sub i u n,cs,h,_,a=>by simp only[Slot.j9] at h ⊢;rw[a i (by simp[Slot.ZR])];exact h
 | .ZH e x,cs,h,k,_=>by
  simp only[Slot.j9] at h ⊢;obtain⟨b,u,C,A,z,B,D,E⟩:=h;exact⟨b,u,C,A,X0 z k.size,(k.M1 b z B).2,D.mono z B k,e.mono E k⟩
 | .o7 g cap,cs,h,k,a=>by
  simp only[Slot.j9] at h ⊢;obtain⟨vs,A,z⟩:=h;exact⟨vs,A,nI cap vs z k (by simpa[Slot.ZR] using a)⟩
 | .top,cs,h,_,_=>by simpa only[Slot.j9] using h
 | .agg l,cs,h,_,_=>by simp[Slot.j9] at h
 | .XU l,cs,h,_,_=>by simp[Slot.j9] at h
theorem nI:∀(l:List Slot) (vs:List aAd),aX ρ S w l vs->Ext S S' w w'->mU ρ ρ' (eC l)->aX ρ' S' w' l vs
 | [],vs,h,_,_=>by simpa only[aX] using h
 |s::r,vs,h,k,a=>by
  simp only[aX] at h ⊢;obtain⟨u,A,B,C,D⟩:=h;exact⟨u,A,B,Slot.WY s u C k (fun i z=>a i (by simp[eC,z])),nI r A D k (fun i z=>a i (by simp[eC,z]))⟩
theorem fW:∀(l:List Slot) (vs:List aAd),bO ρ S w l vs->Ext S S' w w'->mU ρ ρ' (eC l)->bO ρ' S' w' l vs
 | [],vs,h,_,_=>by simpa only[bO] using h
 |s::r,vs,h,k,a=>by
  simp only[bO] at h ⊢;obtain⟨u,A,B,C,D⟩:=h;exact⟨u,A,B,vV s u C k (fun i z=>a i (by simp[eC,z])),fW r A D k (fun i z=>a i (by simp[eC,z]))⟩
theorem Slot.WY:∀(s:Slot) (u:aAd),s.ok ρ S w u->Ext S S' w w'->mU ρ ρ' s.ZR->s.ok ρ' S' w' u
 | .v e x,z,h,k,_=>by simp only[Slot.ok] at h ⊢;exact gT h k
 | .ref i,z,h,_,a=>by simp only[Slot.ok] at h ⊢;rw[a i (by simp[Slot.ZR])];exact h
 | .ptr i B,z,h,_,a=>by simp only[Slot.ok] at h ⊢;rw[a i (by simp[Slot.ZR])];exact h
 | .jc i B j n,z,h,_,a=>by simp only[Slot.ok] at h ⊢;rw[a i (by simp[Slot.ZR])];exact h
 | .el i k n B,z,h,_,a=>by simp only[Slot.ok] at h ⊢;rw[a i (by simp[Slot.ZR])];exact h
 | .D4 i B H n cap,z,h,_,a=>by simp only[Slot.ok] at h ⊢;rw[a i (by simp[Slot.ZR])];exact h
 | .pv i B n cap,z,h,_,a=>by simp only[Slot.ok] at h ⊢;rw[a i (by simp[Slot.ZR])];exact h
 | .sub i B n,z,h,_,a=>by simp only[Slot.ok] at h ⊢;rw[a i (by simp[Slot.ZR])];exact h
 | .ZH e x,z,h,k,_=>by
  simp only[Slot.ok] at h ⊢;obtain⟨b,B,E,C,A,D,F,G⟩:=h;exact⟨b,B,E,C,X0 A k.size,(k.M1 b A D).2,F.mono A D k,e.mono G k⟩
 | .o7 g cap,z,h,k,a=>by
  simp only[Slot.ok] at h ⊢;obtain⟨vs,C,A⟩:=h;exact⟨vs,C,nI cap vs A k (by simpa[Slot.ZR] using a)⟩
 | .top,z,h,_,_=>by simpa only[Slot.ok] using h
 | .agg l,z,h,k,a=>by
  simp only[Slot.ok] at h ⊢;obtain⟨vs,C,A⟩:=h;exact⟨vs,C,fW l vs A k (by simpa[Slot.ZR] using a)⟩
 | .XU l,z,h,k,a=>by
  simp only[Slot.ok] at h ⊢;obtain⟨vs,C,A⟩:=h;exact⟨vs,C,nI l vs A k (by simpa[Slot.ZR] using a)⟩
end
end
def Wr.j7{α:Type}(e:Wr α):List α->(Nat->Prop)->aAa->List aAd->Prop
 | [],_,_,h=>h=[]
 |x::xs,S,w,h=>∃c d,h=c++d/\e.ok x S w c/\Wr.j7 e xs S w d
section
variable {α:Type}{e:Wr α}{S S':Nat->Prop}{w w':aAa}
theorem Wr.XF:∀{xs:List α} {cs},e.j7 xs S w cs->Ext S S' w w'->e.j7 xs S' w' cs
 | [],_,h,_=>h
 |_::_,_,⟨c,d,u,z,A⟩,k=>⟨c,d,u,e.mono z k,Wr.XF A k⟩
theorem cR:∀{xs:List α} {cs},e.j7 xs S w cs->cs.length=xs.length*e.n
 | [],_,h=>by simp only[Wr.j7] at h;simp[h]
 |x::xs,_,⟨c,d,u,z,A⟩=>by rw[u,sM,e.len z,cR A,H6,O8,tr,aDg]
theorem rP:∀{xs:List α} {cs},e.j7 xs S w cs->∀c∈cs,c.oneCell'=true
 | [],_,h=>by simp only[Wr.j7] at h;simp[h]
 |x::xs,_,⟨c,d,z,A,B⟩=>by
  intro y u;rw[z] at u;rcases S9.1 u with u | u
  ·exact e.cell A y u
  ·exact rP B y u
theorem gN:∀{xs ys:List α} {cs ds},e.j7 xs S w cs->e.j7 ys S w ds->e.j7 (xs++ys) S w (cs++ds)
 | [],_,_,_,h,k=>by simp only[Wr.j7] at h;simpa[h] using k
 |x::xs,ys,_,ds,⟨c,d,u,z,A⟩,k=>⟨c,d++ds,by rw[u,H7],z,gN A k⟩
theorem zL:∀{xs ys:List α} {cs},e.j7 (xs++ys) S w cs->∃c d,cs=c++d/\e.j7 xs S w c/\e.j7 ys S w d
 | [],_,cs,h=>⟨[],cs,rfl,rfl,h⟩
 |x::xs,ys,_,⟨c,d,D,E,F⟩=>by
  obtain⟨u,z,A,B,C⟩:=zL (xs:=xs) F;exact⟨c++u,z,by rw[D,A,H7],⟨c,u,rfl,E,B⟩,C⟩
theorem qY{xs:List α}{cs}(h:e.j7 xs S w cs){i:Nat}{x:α}(hx:xs[i]? =some x):
  ∃a c b,cs=a++(c++b)/\a.length=i*e.n/\e.ok x S w c/\(∀y c',e.ok y S w c'->e.j7 (xs.set i y) S w (a++(c'++b))):=by
 have u:i<xs.length:=by
  rcases R8 i xs.length with h | h
  ·exact h
  ·simp[dc h] at hx
 have B:xs[i]=x:=by simpa[J0 u] using hx
 have C:xs=xs.take i++(x::xs.drop (i+1)):=by
  rw[<-B,List.getElem_cons_drop,db]
 have z:=h;rw[C] at z;obtain⟨a,d,E,A,c,b,F,G,H⟩:=zL z;refine⟨a,c,b,by rw[E,F],?_,G,fun y c' D=>?_⟩
 ·rw[cR A,I8];rw[tx (Nat.le_of_lt u)]
 ·have:xs.set i y=xs.take i++(y::xs.drop (i+1)):=by
   rw[aDx,YC u]
  rw[this];exact gN A ⟨c',b,rfl,D,H⟩
end
structure DE (α:Type) where
 ok:α->(Nat->Prop)->aAa->LV->List aAd->Prop
 mono:∀{x:α} {S S':Nat->Prop} {w w':aAa} {u:LV} {l:List aAd},ok x S w u l->Ext S S' w w'->(∀b,qX u b->w'.heap[b]? =w.heap[b]?)->ok x S' w' u l
inductive XB:Type 1
 |box (T:aAb) (l:List Slot) (pb:Option Nat:=none)
 |arr {α:Type} (T:aAb) (e:Wr α) (xs:List α)
 |mp {α β:Type} (e:Wr α) (f:Wr β) (m:List (α×β))
 |dp {α:Type} (D:DE α) (x:α) (ls:List Nat)
def Ye{α β:Type}(e:Wr α)(f:Wr β)(S:Nat->Prop)(w:aAa):List (α×β)->List MapEntry->Prop
 | [],[]=>True
 | (k,v)::m,x::xs=>e.val k S w x.key/\f.val v S w x.val/\Ye e f S w m xs
 |_,_=>False
theorem zU{α β:Type}{e:Wr α}{f:Wr β}{S S':Nat->Prop}{w w':aAa}(k:Ext S S' w w'):∀{m:List (α×β)} {xs:List MapEntry},Ye e f S w m xs->Ye e f S' w' m xs
 | [],[],_=>trivial
 | (_,_)::_,_::_,⟨u,z,A⟩=>⟨gT u k,gT z k,zU k A⟩
 | [],_::_,h=>h
 |_::_,[],h=>h
def XB.ok(ρ:Nat->LV)(S:Nat->Prop)(w:aAa)(u:LV):XB->Prop
 | .box T l h=>(∃b cs,u.v= .pointer (some ⟨b,0,none⟩)/\w.heap[b]? =some (.cells cs.toArray T (0,0))/\bO ρ S w l cs)/\∀c,h=some c->u.v= .pointer (some ⟨c,0,none⟩)
 | .arr T e xs=>(xs=[]/\u.v= .slice none 0 0)\/∃b cap pre cs post,u.v= .slice (some ⟨b,pre.length,none⟩) xs.length cap/\
   w.heap[b]? =some (.cells (pre++(cs++post)).toArray T (0,0))/\e.j7 xs S w cs/\xs.length<=cap/\cap*e.n<=cs.length+post.length/\xs.length<=140737488355328
 | .mp e f m=>∃b es ck,u.v= .map (some b)/\w.heap[b]? =some (.map es ck)/\Ye e f S w m es.toList
 | .dp D x z=>D.ok x S w u (z.map fun l=>(ρ l).v)
def XB.ZR:XB->List Nat
 | .box _ l _=>eC l
 | .arr _ _ _=>[]
 | .mp _ _ _=>[]
 | .dp _ _ h=>h
theorem XB.WY{ρ ρ':Nat->LV}{S S':Nat->Prop}{w w':aAa}{u:LV}{en:XB}(h:en.ok ρ S w u)(k:Ext S S' w w')(a:mU ρ ρ' en.ZR)
  (hb:∀b,qX u b->w'.heap[b]? =w.heap[b]?):en.ok ρ' S' w' u:=by
 cases en with
 |box T l O=>
  obtain⟨⟨b,C,z,A,B⟩,E⟩:=h;exact⟨⟨b,C,z,by rw[hb b (.inl (by simp[z,j1]))];exact A,fW l C B k a⟩,E⟩
 |arr T e xs=>
  rcases h with h |⟨b,K,L,C,M,z,A,B,E,N⟩
  ·exact .inl h
  ·exact .inr ⟨b,K,L,C,M,z,by rw[hb b (.inl (by simp[z,j1]))];exact A,Wr.XF B k,E,N⟩
 |mp e f m=>
  obtain⟨b,H,I,z,A,B⟩:=h;exact⟨b,H,I,z,by rw[hb b (.inl (by simp[z,j1]))];exact A,zU k B⟩
 |dp D x F=>
  have:=D.mono h k hb;simp only[XB.ok];have e:(F.map fun l=>(ρ' l).v)=F.map fun l=>(ρ l).v:=List.map_congr_left fun l G=>a l G;rw[e];exact this
def lk:List (Nat×Slot)->Nat->Option Slot
 | [],_=>none
 | (i,s)::r,t=>bif Nat.beq i t then some s else lk r t
def aY:List (Nat×XB)->Nat->Option XB
 | [],_=>none
 | (i,s)::r,t=>bif Nat.beq i t then some s else aY r t
structure AS:Type 1 where
 g:List (Nat×Slot)
 d:List (Nat×XB)
structure YP where
 P:aAe
 N:Nat
 S0:Nat->Prop
 w0:aAa
 R:Nat->Prop
 rd:Option Nat
 df:List Deferred
def mV(ρ:Nat->LV)(d:List (Nat×XB))(k:Nat):Prop:=∃i en,aY d i=some en/\qX (ρ i) k
def Un(S:Nat->Prop)(ρ:Nat->LV)(d:List (Nat×XB))(k:Nat):Prop:=S k\/mV ρ d k
structure Core (F:YP) (d:List (Nat×XB)) (ρ:Nat->LV) (w:aAa):Prop where
 low:∀k,F.S0 k->k<F.w0.heap.size
 size:F.w0.heap.size<=w.heap.size
 frame:∀k,k<F.w0.heap.size->¬F.R k->w.heap[k]? =F.w0.heap[k]?
 os:w.os=F.w0.os
 tape:w.tape=F.w0.tape
 output:w.output=F.w0.output
 own:∀i en,aY d i=some en->en.ok ρ (Un F.S0 ρ d) w (ρ i)
 fresh:∀i en b,aY d i=some en->qX (ρ i) b->(F.w0.heap.size<=b\/F.R b)/\b<w.heap.size
 inj:∀i j en en' b,aY d i=some en->aY d j=some en'->qX (ρ i) b->qX (ρ j) b->i=j
 apart:∀i en b,aY d i=some en->qX (ρ i) b->¬F.S0 b
structure St (F:YP) (O:AS) (a:aAm) (w:aAa):Prop where
 core:∃ρ,Core F O.d ρ w/\∀t s,lk O.g t=some s->s.ok ρ (Un F.S0 ρ O.d) w (a.tmps.getD t undef)
 size:a.tmps.size=F.N
 defers:a.defers=F.df
end Go.Sw
namespace Go.Sw
open Go Go.RowKit
def Dh(k:aAg)(n:Int):Prop:=k.min<=n/\n<=k.max
instance (k:aAg) (n:Int):Decidable (Dh k n):=inferInstanceAs (Decidable (_/\_))
def Wr.int(k:aAg):Wr Int where
 n:=1
 agg:=false
 ok x _ _ cs:=cs=[.int k x]/\Dh k x
 len h:=by rw[h.1];rfl
 one _:=rfl
 cell h c hc:=by rw[h.1] at hc;simp at hc;subst hc;rfl
 mono h _:=h
def Wr.bool:Wr Bool where
 n:=1
 agg:=false
 ok x _ _ cs:=cs=[.bool x]
 len h:=by rw[h];rfl
 one _:=rfl
 cell h c hc:=by rw[h] at hc;simp at hc;subst hc;rfl
 mono h _:=h
def Wr.str:Wr ByteArray where
 n:=1
 agg:=false
 ok x _ _ cs:=cs=[.string x]/\x.size<=9223372036854775807
 len h:=by rw[h.1];rfl
 one _:=rfl
 cell h c hc:=by rw[h.1] at hc;simp at hc;subst hc;rfl
 mono h _:=h
theorem vW{k:aAg}{x:Int}{S w u}:(Wr.int k).val x S w u↔u= .int k x/\Dh k x:=by
 constructor
 ·rintro⟨z,⟨rfl,h⟩,rfl⟩;exact⟨rfl,h⟩
 ·rintro⟨rfl,h⟩;exact⟨_,⟨rfl,h⟩,rfl⟩
theorem zV{x:Bool}{S w u}:Wr.bool.val x S w u↔u= .bool x:=by
 constructor
 ·rintro⟨h,rfl,rfl⟩;rfl
 ·rintro rfl;exact⟨_,rfl,rfl⟩
theorem MM{x:ByteArray}{S w u}:Wr.str.val x S w u↔u= .string x/\x.size<=9223372036854775807:=by
 constructor
 ·rintro⟨z,⟨rfl,h⟩,rfl⟩;exact⟨rfl,h⟩
 ·rintro⟨rfl,h⟩;exact⟨_,⟨rfl,h⟩,rfl⟩
def XC(P:aAe)(o:aAi)(a:aAm)(w:aAa)(K:aAd->aAa->Prop):Prop:=
 (∃v w',(execOp a.eval o).run P w= .ok (.value v) w'/\K v w')\/(∃w',(execOp a.eval o).run P w= .ok .skip w'/\K undef w')\/
 (∃f args w',(execOp a.eval o).run P w= .ok (.enter f args) w'/\Calls P f args w' fun e h=>∃v,e= .returned v/\K v h)\/
 (∃l f tmps assign body w',(execOp a.eval o).run P w= .ok (.round l f tmps assign body) w'/\RoundIn Fence.wide 0 P l f tmps assign body w' fun e h=>∃v,e= .returned v/\K v h)
theorem Az{P:aAe}{o:aAi}{a:aAm}{w w':aAa}{x:Next}(h:(execOp a.eval o).run P w= .ok x w')(hx:∀d,x≠.defer d)(l:Option Nat):o.semAt l a.eval=execOp a.eval o:=by
 refine Oper.semAt_eq _ _ _ fun c u=>?_;unfold execOp at h;rw[u] at h;simp only[Sem.run_bind] at h;cases hr:(resolve a.eval c o.type).run P w with
 |ok d z=>rw[hr] at h;simp at h;exact hx d h.1.symm
 |halt x z=>rw[hr] at h;simp at h
abbrev YP.fe(F:YP):Fence:={ Fence.wide with round:=F.rd }
theorem XC.wpIn{P:aAe}{o:aAi}{a:aAm}{w:aAa}{K:aAd->aAa->Prop}(h:XC P o a w K){l:Option Nat}{next:aAm->aAa->Prop}{Q:aAl->aAm->aAa->Prop}(hn:∀v w',K v w'->next (a.put o.dst v) w'):
  o.wpIn { Fence.wide with round:=l } 0 P a w next Q:=by
 refine⟨fun _ _=>trivial,?_⟩;rcases h with⟨v,w',h,k⟩|⟨w',h,k⟩|⟨f,D,w',h,k⟩|⟨z,f,A,B,body,w',h,k⟩
 ·rw[Az h (fun _ h=>by cases h),h];exact hn v w' k
 ·rw[Az h (fun _ h=>by cases h),h];exact hn undef w' k
 ·rw[Az h (fun _ h=>by cases h),h];refine⟨fun h=>(by cases h),?_⟩;refine CallsIn.mono (callsIn_wide.2 k) ?_;rintro e C ⟨v,rfl,u⟩;exact hn _ _ u
 ·rw[Az h (fun _ h=>by cases h),h];refine⟨fun h=>(by cases h),?_⟩;refine RoundIn.mono (show RoundIn { Fence.wide with round:=l } (0 - 1) P z f A B body w' _ from k) ?_;rintro e C ⟨v,rfl,u⟩;exact hn _ _ u
theorem XC.value{P:aAe}{o:aAi}{a:aAm}{w w':aAa}{v:aAd}{K:aAd->aAa->Prop}(h:(execOp a.eval o).run P w= .ok (.value v) w')(k:K v w'):XC P o a w K:= .inl ⟨v,w',h,k⟩
theorem XC.skip{P:aAe}{o:aAi}{a:aAm}{w w':aAa}{K:aAd->aAa->Prop}(h:(execOp a.eval o).run P w= .ok .skip w')(k:K undef w'):XC P o a w K:= .inr (.inl ⟨w',h,k⟩)
theorem XC.enter{P:aAe}{o:aAi}{a:aAm}{w w':aAa}{f:aAf}{args:Array aAd}{K:aAd->aAa->Prop}(h:(execOp a.eval o).run P w= .ok (.enter f args) w')
  (k:Calls P f args w' fun e sy=>∃v,e= .returned v/\K v sy):XC P o a w K:= .inr (.inr (.inl ⟨f,args,w',h,k⟩))
theorem XC.mono{P:aAe}{o:aAi}{a:aAm}{w:aAa}{K K':aAd->aAa->Prop}(h:XC P o a w K)(k:∀v w',K v w'->K' v w'):XC P o a w K':=by
 rcases h with⟨v,w',h,u⟩|⟨w',h,u⟩|⟨f,C,w',h,u⟩|⟨D,f,E,F,body,w',h,u⟩
 ·exact .inl ⟨v,w',h,k _ _ u⟩
 ·exact .inr (.inl ⟨w',h,k _ _ u⟩)
 ·exact .inr (.inr (.inl ⟨f,C,w',h,u.mono fun e B ⟨v,z,A⟩=>⟨v,z,k _ _ A⟩⟩))
 ·exact .inr (.inr (.inr ⟨D,f,E,F,body,w',h,u.mono fun e B ⟨v,z,A⟩=>⟨v,z,k _ _ A⟩⟩))
def GZ:aAd->Option Slot
 | .int k n=>if Dh k n then some (.v (Wr.int k) n) else none
 | .bool b=>some (.v Wr.bool b)
 | .string s=>if s.size<=9223372036854775807 then some (.v Wr.str s) else none
 |_=>none
def dH(g:List (Nat×Slot)):aAc->Option Slot
 | .tmp t=>lk g t
 | .const u=>GZ u
 |_=>none
theorem Mm{u:aAd}{s:Slot}(h:GZ u=some s)(ρ:Nat->LV)(S:Nat->Prop)(w:aAa):s.ok ρ S w u/\s.ZR=[]:=by
 cases u<;>simp only[GZ] at h
 case int k n=>
  split at h
  ·rename_i z;cases h;exact⟨by simp only[Slot.ok];exact vW.2 ⟨rfl,z⟩,rfl⟩
  ·cases h
 case bool b=>cases h;exact⟨by simp only[Slot.ok];exact zV.2 rfl,rfl⟩
 case string b=>
  split at h
  ·rename_i z;cases h;exact⟨by simp only[Slot.ok];exact MM.2 ⟨rfl,z⟩,rfl⟩
  ·cases h
 all_goals cases h
structure qc (ρ:Nat->LV) (S:Nat->Prop) (w w':aAa) (new:List (Nat×XB)):Prop where
 own:∀i en,aY new i=some en->en.ok ρ S w' (ρ i)
 fresh:∀i en b,aY new i=some en->qX (ρ i) b->w.heap.size<=b/\b<w'.heap.size
 inj:∀i j en en' b,aY new i=some en->aY new j=some en'->qX (ρ i) b->qX (ρ j) b->i=j
def ZC(ρ:Nat->LV)(S:Nat->Prop)(w:aAa)(s:Slot)(new:List (Nat×XB))(v:aAd)(w':aAa):Prop:=
 ∃ρ',(∀i,aY new i=none->ρ' i=ρ i)/\Below w.heap.size w w'/\s.ok ρ' (Un S ρ' new) w' v/\qc ρ' (Un S ρ' new) w w' new
structure B3 (O:AS) (xs:Array aAc) (ρ:Nat->LV) (S:Nat->Prop) (a:aAm) (w:aAa):Prop where
 low:∀k,S k->k<w.heap.size
 slot:∀x∈xs,∀s,dH O.g x=some s->s.ok ρ S w (a.eval x)
 G6:∀x∈xs,∀s,dH O.g x=some s->∀i∈s.ZR,∀en,aY O.d i=some en->en.ok ρ S w (ρ i)/\∀b,qX (ρ i) b->S b/\b<w.heap.size
def JO(F:YP)(o:aAi)(O:AS)(s:Slot)(new:List (Nat×XB)):Prop:=
 ∀ρ S a w,B3 O o.op.operands ρ S a w->XC F.P o a w (ZC ρ S w s new)
def AS.put(O:AS)(dst:Option Tmp)(s:Slot)(new:List (Nat×XB)):AS:=
 ⟨match dst with | some d=>(d,s)::O.g | none=>O.g,new++O.d⟩
def AS.free(O:AS)(new:List (Nat×XB)):Bool:=
 new.all fun x=>(O.g.all fun y=> !y.2.ZR.contains x.1) && O.d.all fun y=> !Nat.beq y.1 x.1 && !y.2.ZR.contains x.1
def gS(dst:Option Tmp)(n:Nat):Bool:=match dst with | some d=>Nat.blt d n | none=>true
theorem gO(l r:List (Nat×XB))(i:Nat):aY (l++r) i=(aY l i).or (aY r i):=by
 induction l with
 |nil=>simp[aY]
 |cons x l h=>
  obtain⟨j,u⟩:=x;simp only[fy,aY];cases Nat.beq j i<;>simp[h]
theorem mW{l:List (Nat×XB)}{i:Nat}{en:XB}(h:aY l i=some en):(i,en)∈l:=by
 induction l with
 |nil=>simp[aY] at h
 |cons x l u=>
  obtain⟨j,z⟩:=x;simp only[aY] at h;cases hb:Nat.beq j i with
  |true=>rw[hb] at h;simp at h;subst h;have:=D6 hb;subst this;exact dg
  |false=>rw[hb] at h;exact cz _ (u h)
theorem Mn{l:List (Nat×Slot)}{i:Nat}{s:Slot}(h:lk l i=some s):(i,s)∈l:=by
 induction l with
 |nil=>simp[lk] at h
 |cons x l u=>
  obtain⟨j,z⟩:=x;simp only[lk] at h;cases hb:Nat.beq j i with
  |true=>rw[hb] at h;simp at h;subst h;have:=D6 hb;subst this;exact dg
  |false=>rw[hb] at h;exact cz _ (u h)
theorem lD{O:AS}{new:List (Nat×XB)}(h:O.free new=true){i:Nat}{en:XB}(hi:aY new i=some en):
  (∀t s,lk O.g t=some s->i∉s.ZR)/\aY O.d i=none/\∀j e,aY O.d j=some e->i∉e.ZR:=by
 have u:=y8.1 h _ (mW hi);simp only[K0,y8] at u;obtain⟨u,A⟩:=u;refine⟨fun t s B z=>?_,?_,fun j e C z=>?_⟩
 ·have:=u _ (Mn B);simp at this;exact this z
 ·cases hd:aY O.d i with
  |none=>rfl
  |some e=>
   have:=(A _ (mW hd)).1;simp at this
 ·have:=(A _ (mW C)).2;simp at this;exact this z
theorem rQ{w w':aAa}(h:Below w.heap.size w w'){S S':Nat->Prop}(hs:∀k,k<w.heap.size->S' k->S k):Ext S S' w w':=
 ⟨h.size,fun k u z=>⟨h.block k u,fun A=>z (hs k u A)⟩⟩
theorem Core.put{F:YP}{d new:List (Nat×XB)}{ρ ρ':Nat->LV}{w w':aAa}{O:AS}(hσ:O.d=d)(hc:Core F d ρ w)(hf:O.free new=true)(hρ:∀i,aY new i=none->ρ' i=ρ i)
  (hb:Below w.heap.size w w') (hn:qc ρ' (Un (Un F.S0 ρ d) ρ' new) w w' new):
  Core F (new++d) ρ' w'/\(∀k,Un F.S0 ρ' (new++d) k↔Un (Un F.S0 ρ d) ρ' new k)/\Ext (Un F.S0 ρ d) (Un F.S0 ρ' (new++d)) w w':=by
 subst hσ
 have D:∀i u,aY O.d i=some u->ρ' i=ρ i:=fun i u h=>hρ i (by
  cases hx:aY new i with
  |none=>rfl
  |some e=>rw[(lD hf hx).2.1] at h;cases h)
 have K:∀k,Un F.S0 ρ' (new++O.d) k↔Un (Un F.S0 ρ O.d) ρ' new k:=by
  intro k;constructor
  ·rintro (h |⟨i,u,z,A⟩)
   ·exact .inl (.inl h)
   ·rw[gO] at z;cases hx:aY new i with
    |some e=>exact .inr ⟨i,e,hx,A⟩
    |none=>rw[hx] at z;simp at z;exact .inl (.inr ⟨i,u,z,by rw[<-D i u z];exact A⟩)
  ·rintro ((h |⟨i,u,z,A⟩) |⟨i,u,z,A⟩)
   ·exact .inl h
   ·refine .inr ⟨i,u,?_,by rw[D i u z];exact A⟩;rw[gO];cases hx:aY new i with
    |some e=>rw[(lD hf hx).2.1] at z;cases z
    |none=>simpa using z
   ·exact .inr ⟨i,u,by rw[gO,z];rfl,A⟩
 have N:Ext (Un F.S0 ρ O.d) (Un F.S0 ρ' (new++O.d)) w w':=by
  refine rQ hb fun k L h=>?_;rcases (K k).1 h with h |⟨i,u,z,A⟩
  ·exact h
  ·have:=(hn.fresh i u k z A).1;omega
 have Q:Ext (Un (Un F.S0 ρ O.d) ρ' new) (Un F.S0 ρ' (new++O.d)) w' w':=⟨ZY _,fun k _ h=>⟨rfl,fun hc=>h ((K k).1 hc)⟩⟩;refine⟨⟨hc.low,ik hc.size hb.size,fun k L R=>(hb.block k (X0 L hc.size)).trans (hc.frame k L R),hb.os.trans hc.os,hb.tape.trans hc.tape,hb.output.trans hc.output,?_,?_,?_,?_⟩,K,N⟩
 ·intro i u h;rw[gO] at h;cases hx:aY new i with
  |some e=>
   rw[hx] at h;simp at h;subst h;exact XB.WY (hn.own i e hx) Q (fun _ _=>rfl) (fun _ _=>rfl)
  |none=>
   rw[hx] at h;simp at h;rw[D i u h];refine XB.WY (hc.own i u h) N (fun j B=>congrArg LV.v (hρ j ?_)) (fun b C=>hb.block b (hc.fresh i u b h C).2);cases hy:aY new j with
   |none=>rfl
   |some e=>exact absurd B ((lD hf hy).2.2 i u h)
 ·intro i u b h C;rw[gO] at h;cases hx:aY new i with
  |some e=>
   obtain⟨z,A⟩:=hn.fresh i e b hx C;exact⟨.inl (ik hc.size z),A⟩
  |none=>
   rw[hx] at h;simp at h;rw[D i u h] at C;obtain⟨z,A⟩:=hc.fresh i u b h C;exact⟨z,X0 A hb.size⟩
 ·intro i j u I b E B H G;rw[gO] at E B;cases hx:aY new i with
  |some e=>
   cases hy:aY new j with
   |some M=>exact hn.inj i j e M b hx hy H G
   |none=>
    rw[hy] at B;simp at B;rw[D j I B] at G;have z:=(hn.fresh i e b hx H).1;have A:=(hc.fresh j I b B G).2;omega
  |none=>
   rw[hx] at E;simp at E;rw[D i u E] at H;cases hy:aY new j with
   |some M=>
    have z:=(hn.fresh j M b hy G).1;have A:=(hc.fresh i u b E H).2;omega
   |none=>
    rw[hy] at B;simp at B;rw[D j I B] at G;exact hc.inj i j u I b E B H G
 ·intro i u b h C P;rw[gO] at h;cases hx:aY new i with
  |some e=>
   have z:=(hn.fresh i e b hx C).1;have A:=hc.low b P;have S:=hc.size;omega
  |none=>
   rw[hx] at h;simp at h;rw[D i u h] at C;exact hc.apart i u b h C P
theorem lE(a:aAm)(dst:Option Tmp)(v:aAd):(a.put dst v).tmps.size=a.tmps.size:=by
 cases dst<;>simp[Act.put]
theorem lF(a:aAm)(d:Tmp)(v:aAd)(t:Tmp)(h:d<a.tmps.size):(a.put (some d) v).tmps.getD t undef=if d=t then v else a.tmps.getD t undef:=by
 simp only[Act.put,sf,aDj];split
 ·simp_all
 ·rfl
theorem St.put{F:YP}{O:AS}{dst:Option Tmp}{s:Slot}{new:List (Nat×XB)}{ρ:Nat->LV}{a:aAm}{w w':aAa}{v:aAd}
  (hc:Core F O.d ρ w) (hs:∀t s,lk O.g t=some s->s.ok ρ (Un F.S0 ρ O.d) w (a.tmps.getD t undef)) (hz:a.tmps.size=F.N) (hd:a.defers=F.df)
  (hf:O.free new=true) (p8:gS dst F.N=true) (hr:ZC ρ (Un F.S0 ρ O.d) w s new v w'):St F (O.put dst s new) (a.put dst v) w':=by
 obtain⟨ρ',B,E,G,H⟩:=hr;obtain⟨I,K,L⟩:=hc.put rfl hf B E H;refine⟨⟨ρ',I,?_⟩,by rw[lE,hz],by cases dst<;>exact hd⟩;have z:∀t s,lk O.g t=some s->s.ok ρ' (Un F.S0 ρ' (new++O.d)) w' (a.tmps.getD t undef):=fun t s u=>
  Slot.WY s _ (hs t s u) L (fun j D=>congrArg LV.v (B j (by
   cases hy:aY new j with
   |none=>rfl
   |some e=>exact absurd D ((lD hf hy).1 t s u))))
 intro t A u;cases dst with
 |none=>exact z t A u
 |some d=>
  simp only[AS.put,lk] at u;have C:d<a.tmps.size:=by rw[hz];exact E7 p8
  rw[lF a d v t C];cases hb:Nat.beq d t with
  |true=>
   have:=D6 hb;rw[hb] at u;simp at u;subst u;rw[YC this];exact Slot.WY s v G ⟨ZY _,fun k _ h=>⟨rfl,fun hc=>h ((K k).1 hc)⟩⟩ (fun _ _=>rfl)
  |false=>
   have:d≠t:=fun e=>by subst e;simp at hb
   rw[hb] at u;rw[XV this];exact z t A u
theorem Sf(a:aAm)(t:Tmp):a.eval (.tmp t)=a.tmps.getD t undef:=rfl
theorem cK{F:YP}{O:AS}{ρ:Nat->LV}{a:aAm}{w:aAa}(hc:Core F O.d ρ w)
  (hs:∀t s,lk O.g t=some s->s.ok ρ (Un F.S0 ρ O.d) w (a.tmps.getD t undef)) (xs:Array aAc):B3 O xs ρ (Un F.S0 ρ O.d) a w:=by
 refine⟨fun k A=>?_,fun x _ s h=>?_,fun x _ s h i G z B=>⟨hc.own i z B,fun b C=>⟨.inr ⟨i,z,B,C⟩,(hc.fresh i z b B C).2⟩⟩⟩
 ·rcases A with A |⟨i,z,D,E⟩
  ·exact X0 (hc.low k A) hc.size
  ·exact(hc.fresh i z k D E).2
 cases x with
 |tmp t=>exact hs t s h
 |const u=>exact(Mm h ρ _ w).1
 |global g=>cases h
 |func f=>cases h
def GK(ops:Array aAi)(g:List (Nat×Slot))(o:aAi)(b:Bool):Prop:=
 match o.guard with
 |none=>b=true
 |some (j,want)=>(∃t x,(ops[j]?).bind (·.dst)=some t/\lk g t=some (.v Wr.bool x)/\(x==want)=b)\/(b=false/\∃t,(ops[j]?).bind (·.dst)=some t/\lk g t=some .top)
theorem GK.none{ops:Array aAi}{g:List (Nat×Slot)}{o:aAi}(h:o.guard= .none):GK ops g o true:=by unfold GK;rw[h]
theorem GK.some{ops:Array aAi}{g:List (Nat×Slot)}{o:aAi}{j:Nat}{want:Bool}(t:Tmp)(x:Bool)(b:Bool)(h:o.guard= .some (j,want))(ht:(ops[j]?).bind (·.dst)= .some t)
  (hx:lk g t= .some (.v Wr.bool x)) (hb:(x==want)=b):GK ops g o b:=by unfold GK;rw[h];exact .inl ⟨t,x,ht,hx,hb⟩
theorem uK{ops:Array aAi}{g:List (Nat×Slot)}{o:aAi}{j:Nat}{want:Bool}(t:Tmp)(h:o.guard= .some (j,want))(ht:(ops[j]?).bind (·.dst)= .some t)
  (hx:lk g t= .some .top):GK ops g o false:=by unfold GK;rw[h];exact .inr ⟨rfl,t,ht,hx⟩
theorem zW{ops:Array aAi}{g:List (Nat×Slot)}{o:aAi}{b:Bool}(h:GK ops g o b){ρ S w}{a:aAm}
  (hs:∀t s,(∃j want,o.guard=Option.some (j,want)/\(ops[j]?).bind (·.dst)=Option.some t)->lk g t=Option.some s->s.ok ρ S w (a.tmps.getD t undef)):
  Region.wanted o (yielded ops a.tmps)=b:=by
 unfold GK at h;unfold Region.wanted;split at h
 ·rename_i u;rw[u];exact h.symm
 ·rename_i j want u;rcases h with⟨t,x,A,B,C⟩|⟨rfl,t,A,B⟩
  ·have:=hs t _ ⟨j,want,u,A⟩ B;simp only[Slot.ok] at this;have z:=zV.1 this;rw[u];simp only[yielded,A,cM];have:a.tmps[t]? =Option.some (.bool x):=by
    rw[sf] at z;cases hq:a.tmps[t]? with
    |none=>rw[hq] at z;simp[undef] at z
    |some y=>rw[hq] at z;simpa using z
   rw[this];simp only;rw[<-C];cases x<;>cases want<;>rfl
  ·have:=hs t _ ⟨j,want,u,A⟩ B;simp only[Slot.ok] at this;rw[u];simp only[yielded,A,cM];rw[sf] at this;cases hq:a.tmps[t]? with
   |none=>rfl
   |some y=>rw[hq] at this;simp at this;subst this;rfl
def J(F:YP)(ops:Array aAi)(os:List aAi)(O O':AS):Prop:=
 ∀Q rest a w,St F O a w->(∀a' w',St F O' a' w'->wpListIn F.fe 0 F.P ops Q rest a' w')->wpListIn F.fe 0 F.P ops Q (os++rest) a w
theorem Ba{F:YP}{ops:Array aAi}{Q:aAl->aAm->aAa->Prop}{a:aAm}{w:aAa}{rest:List aAi}{o:aAi}{K:aAd->aAa->Prop}
  (hw:Region.wanted o (yielded ops a.tmps)=true) (h:XC F.P o a w K) (k:∀v w',K v w'->wpListIn F.fe 0 F.P ops Q rest (a.put o.dst v) w'):wpListIn F.fe 0 F.P ops Q (o::rest) a w:=by
 unfold wpListIn;rw[YC hw];exact h.wpIn k
theorem Uq{F:YP}{ops:Array aAi}{Q:aAl->aAm->aAa->Prop}{a:aAm}{w:aAa}{rest:List aAi}{o:aAi}
  (hw:Region.wanted o (yielded ops a.tmps)=false) (k:wpListIn F.fe 0 F.P ops Q rest (a.put o.dst undef) w):wpListIn F.fe 0 F.P ops Q (o::rest) a w:=by
 unfold wpListIn;rw[XV (by rw[hw];decide)];exact⟨fun _ _=>trivial,k⟩
section
variable {F:YP}{ops:Array aAi}{os:List aAi}{o:aAi}{O O' jk:AS}{s:Slot}{new:List (Nat×XB)}
theorem J.nil:J F ops [] O O:=fun _ _ _ _ h k=>k _ _ h
theorem J.cons(g:GK ops O.g o true)(h:JO F o O s new)(hf:O.free new=true)(hd:gS o.dst F.N=true)(k:J F ops os (O.put o.dst s new) O'):J F ops (o::os) O O':=by
 intro Q A a w B C;obtain⟨⟨ρ,z,u⟩,G,H⟩:=B;refine Ba (zW g (fun t x _ D=>u t _ D)) (h ρ _ a w (cK z u _)) fun v I E=>?_;exact k Q A _ _ (St.put z u G H hf hd E) C
theorem AU{ρ:Nat->LV}{S:Nat->Prop}{w:aAa}:ZC ρ S w .top [] undef w:=
 ⟨ρ,fun _ _=>rfl,Below.refl _ _,by simp[Slot.ok],⟨fun _ _ h=>by simp[aY] at h,fun _ _ _ h=>by simp[aY] at h,fun _ _ _ _ _ h=>by simp[aY] at h⟩⟩
theorem J.left(g:GK ops O.g o false)(hd:gS o.dst F.N=true)(k:J F ops os (O.put o.dst .top []) O'):J F ops (o::os) O O':=by
 intro Q u a w z A;obtain⟨⟨ρ,C,h⟩,D,E⟩:=z;refine Uq (zW g (fun t x _ B=>h t _ B)) ?_;exact k Q u _ _ (St.put C h D E rfl hd AU) A
def JM(F:YP)(o:aAi)(O O':AS):Prop:=∀a w,St F O a w->XC F.P o a w fun v h=>St F O' (a.put o.dst v) h
theorem AV(g:GK ops O.g o true)(h:JM F o O O')(k:J F ops os O' jk):J F ops (o::os) O jk:=by
 intro Q A a w u B;have z:=u;obtain⟨⟨ρ,H,E⟩,I,K⟩:=u;refine Ba (zW g (fun t x _ C=>E t _ C)) (h a w z) fun v G D=>?_;exact k Q A _ _ D B
def Sub(F:YP)(O O':AS):Prop:=∀a w,St F O a w->St F O' a w
theorem J.sub(h:Sub F O O')(k:J F ops os O' jk):J F ops os O jk:=fun Q u a w z A=>k Q u a w (h a w z) A
end
def run(Fe:Fence)(P:aAe)(Q:aAl->aAm->aAa->Prop):List aAj->aAm->aAa->Prop
 | [],a,w=>Q .normal a w
 |c::cs,a,w=>c.wpIn Fe 0 P (Exit.then (run Fe P Q cs) Q) a w
def W(F:YP)(cs:List aAj)(O:AS)(Q:aAl->aAm->aAa->Prop):Prop:=∀a w,St F O a w->run F.fe F.P Q cs a w
section
variable {F:YP}{cs:List aAj}{O O':AS}{Q:aAl->aAm->aAa->Prop}
theorem aF{x y:aAj}(h:W F (x::y::cs) O Q):W F (.seq x y::cs) O Q:=by
 intro a w u;refine wpIn_seq (wpIn_mono (h a w u) ?_);intro e a w z;cases e<;>exact z
theorem eH{id:Nat}{ops:List aAi}(h:J F ops.toArray ops O O')(k:W F cs O' Q):W F (.region id ops.toArray false::cs) O Q:=by
 intro a w u;refine wpIn_region_lit ?_;have:=h (Exit.then (run F.fe F.P Q cs) Q) [] a w u (fun z A B=>wpListIn_nil (k z A B));simpa using this
theorem Gk{c:Tmp}{x y:aAj}{b:Bool}(hb:lk O.g c=some (.v Wr.bool b))(ht:b=true->W F (x::cs) O Q)(hf:b=false->W F (y::cs) O Q):W F (.cond (.tmp c) x y::cs) O Q:=by
 intro a w u;obtain⟨ρ,B,A⟩:=u.core;have:=A c _ hb;simp only[Slot.ok] at this;have z:=zV.1 this;exact wpIn_cond_split (c:= .tmp c) (by rw[Sf];exact z) (fun h=>ht h a w u) (fun h=>hf h a w u)
theorem aE(h:W F cs O Q):W F (.skip::cs) O Q:=fun a w u=>wpIn_skip (h a w u)
theorem wV(h:Sub F O O')(k:W F cs O' Q):W F cs O Q:=fun a w u=>k a w (h a w u)
def XQ(F:YP)(O:AS)(Q:aAl->aAm->aAa->Prop)(e:aAl):Prop:=∀a w,St F O a w->Q e a w
theorem aH(h:XQ F O Q .ret):W F (.ret::cs) O Q:=fun a w u=>wpIn_ret (h a w u)
theorem cY{id:Nat}(h:XQ F O Q (.exit id)):W F (.exit id::cs) O Q:=fun a w u=>wpIn_exit (h a w u)
theorem AW(h:XQ F O Q .normal):W F [] O Q:=h
theorem bR{id:Nat}{c:aAj}(h:W F [c] O (Exit.inBlock id (Exit.then (run F.fe F.P Q cs) Q))):W F (.block id c::cs) O Q:=by
 intro a w u;refine wpIn_block (wpIn_mono (h a w u) ?_);intro e a w z;cases e<;>exact z
theorem aZ{id:Nat}(h:W F cs O Q):W F [] O (Exit.inBlock id (Exit.then (run F.fe F.P Q cs) Q)):=fun a w u=>h a w u
theorem MN{id id':Nat}{N:aAm->aAa->Prop}(j5:Nat.beq id' id=false)(h:XQ F O Q (.exit id')):XQ F O (Exit.inBlock id (Exit.then N Q)) (.exit id'):=by
 intro a w z;have u:id'≠id:=fun e=>by subst e;simp at j5
 simp only[Exit.inBlock,XV u];exact h a w z
theorem eK{id:Nat}{N:aAm->aAa->Prop}(h:XQ F O Q .ret):XQ F O (Exit.inBlock id (Exit.then N Q)) .ret:=h
end
inductive Step (α β:Type) where
 |next (x:α)
 |done (b:β)
def loop{α β:Type}(step:α->Option (Step α β)):Nat->α->Option β
 | 0,_=>none
 |n+1,x=>match step x with
  |none=>none
  |some (.next y)=>loop step n y
  |some (.done b)=>some b
def LQ{α β:Type}(F:YP)(σs:α->AS)(b:β)(Q:aAl->aAm->aAa->Prop):Step α β->aAl->aAm->aAa->Prop
 | .next y,.normal,a,w=>St F (σs y) a w
 | .next _,_,_,_=>False
 | .done _,.normal,_,_=>False
 | .done h,e,a,w=>h=b->Q e a w
section
variable {F:YP}{cs:List aAj}{O:AS}{Q:aAl->aAm->aAa->Prop}{α β:Type}
theorem QJ{c:aAj}{σs:α->AS}{step:α->Option (Step α β)}{n:Nat}{x:α}{b:β}(hm:loop step n x=some b)(h0:Sub F O (σs x))
  (h:∀y r,step y=some r->W F [c] (σs y) (LQ F σs b Q r)):W F (.loop c::cs) O Q:=by
 intro a w E;have E:=h0 a w E;let I:aAm->aAa->Prop:=fun a w=>∃m y,Sw.loop step m y=some b/\St F (σs y) a w
 let B:aAm->aAa->Nat->Prop:=fun a w m=>∃y,Sw.loop step m y=some b/\St F (σs y) a w
 have G:∀a w,I a w->∃m,B a w m/\∀k,B a w k->m<=k:=by
  rintro a w ⟨m,y,u,C⟩;have:∃m,B a w m:=⟨m,y,u,C⟩;clear u C;obtain⟨m,hm⟩:=this
  induction m using Nat.strongRecOn with
  |_ m S=>
   by_cases H:∃k,k<m/\B a w k
   ·obtain⟨k,u,C⟩:=H;exact S k u C
   ·exact⟨m,hm,fun k N=>Nat.le_of_not_lt fun R=>H ⟨k,R,N⟩⟩
 classical
 let μ:aAm->aAa->Nat:=fun a w=>if A:I a w then Classical.choose (G a w A) else 0
 have K:∀a w (A:I a w),B a w (μ a w)/\∀k,B a w k->μ a w<=k:=by
  intro a w A;have:=aD4 (G a w A);simp only[μ,dif_pos A];exact this
 refine wpIn_loop (Q:=Exit.then (run F.fe F.P Q cs) Q) I μ ⟨n,x,hm,E⟩ fun a w A=>?_;obtain⟨⟨y,u,C⟩,T⟩:=K a w A;cases hn:μ a w with
 |zero=>rw[hn] at u;simp[Sw.loop] at u
 |succ m=>
  rw[hn] at u;simp only[Sw.loop] at u;cases ZM:step y with
  |none=>rw[ZM] at u;cases u
  |some r=>
   have:=h y r ZM a w C;refine wpIn_mono this ?_;intro e M w' D;cases r with
   |next z=>
    rw[ZM] at u;cases e<;>simp only[LQ,Exit.then,run] at D ⊢;have L:I M w':=⟨m,z,u,D⟩;refine⟨L,?_⟩;have:=(K M w' L).2 m ⟨z,u,D⟩;omega
   |done U=>
    rw[ZM] at u;simp at u;cases e<;>simp only[LQ,Exit.then,run] at D ⊢<;>exact D u
end
end Go.Sw
namespace Go.Sw
open Go Go.RowKit
def Wr.sl{α:Type}(e:Wr α):Wr (List α) where
 n:=1
 agg:=false
 ok xs S w cs:=∃a u,cs=[.slice a xs.length u]/\(xs.length<=u/\xs.length<=140737488355328)/\(xs=[]\/∃b z A,a=some ⟨b,z,none⟩/\b<w.heap.size/\¬S b/\XK w b z A/\e.j7 xs S w A)
 len h:=by obtain⟨a,u,h,_⟩:=h;rw[h];rfl
 one _:=rfl
 cell h c hc:=by obtain⟨a,u,h,_⟩:=h;rw[h] at hc;simp at hc;subst hc;rfl
 mono h k:=by
  obtain⟨a,u,h,E,B⟩:=h;refine⟨a,u,h,E,?_⟩;rcases B with B |⟨b,z,A,F,C,D,G,H⟩
  ·exact .inl B
  ·exact .inr ⟨b,z,A,F,X0 C k.size,(k.M1 b C D).2,G.mono C D k,Wr.XF H k⟩
def Wr.arr{α:Type}(m:Nat)(e:Wr α):Wr (List α) where
 n:=m*e.n
 agg:=true
 ok xs S w cs:=xs.length=m/\e.j7 xs S w cs
 len h:=by rw[cR h.2,h.1]
 one h:=by cases h
 cell h:=rP h.2
 mono h k:=⟨h.1,Wr.XF h.2 k⟩
def Wr.pr{α β:Type}(a:Wr α)(b:Wr β):Wr (α×β) where
 n:=a.n+b.n
 agg:=true
 ok x S w cs:=∃c d,cs=c++d/\a.ok x.1 S w c/\b.ok x.2 S w d
 len h:=by obtain⟨c,d,h,u,z⟩:=h;rw[h,sM,a.len u,b.len z]
 one h:=by cases h
 cell h y hy:=by
  obtain⟨c,d,h,u,z⟩:=h;rw[h] at hy;rcases S9.1 hy with hy | hy
  ·exact a.cell u y hy
  ·exact b.cell z y hy
 mono h k:=by obtain⟨c,d,h,u,z⟩:=h;exact⟨c,d,h,a.mono u k,b.mono z k⟩
def Wr.N8{α:Type}(a:Wr α):Wr α where
 n:=a.n
 agg:=true
 ok:=a.ok
 len:=a.len
 one h:=by cases h
 cell:=a.cell
 mono:=a.mono
def Wr.err(T:aAb):Wr (Option Int) where
 n:=1
 agg:=false
 ok x _ _ cs:=match x with | none=>cs=[.nilIface] | some n=>cs=[.iface T (.int .i64 n)]/\Dh .i64 n
 len {x _ _ _} h:=by cases x<;>simp only at h<;>first | (rw[h];rfl) | (rw[h.1];rfl)
 one _:=rfl
 cell {x _ _ _} h c hc:=by
  cases x<;>simp only at h<;>first | (rw[h] at hc;simp at hc;subst hc;rfl) | (rw[h.1] at hc;simp at hc;subst hc;rfl)
 mono h _:=h
theorem sP{α:Type}{e:Wr α}{xs:List α}{S w u}:(Wr.sl e).val xs S w u↔∃a cap,u= .slice a xs.length cap/\(xs.length<=cap/\xs.length<=140737488355328)/\(xs=[]\/∃b off ds,a=some ⟨b,off,none⟩/\b<w.heap.size/\¬S b/\XK w b off ds/\e.j7 xs S w ds):=by
 constructor
 ·rintro⟨B,⟨a,cap,z,A⟩,rfl⟩;rw[z];exact⟨a,cap,rfl,A⟩
 ·rintro⟨a,cap,rfl,h⟩;exact⟨_,⟨a,cap,rfl,h⟩,rfl⟩
theorem Bb{T:aAb}{S w u}:(Wr.err T).val none S w u↔u= .nilIface:=by
 constructor
 ·rintro⟨z,h,rfl⟩;simp only[Wr.err] at h;rw[h];rfl
 ·rintro rfl;exact⟨_,rfl,rfl⟩
theorem Bc{T:aAb}{n:Int}{S w u}:(Wr.err T).val (some n) S w u↔u= .iface T (.int .i64 n)/\Dh .i64 n:=by
 constructor
 ·rintro⟨z,h,rfl⟩;simp only[Wr.err] at h;rw[h.1];exact⟨rfl,h.2⟩
 ·rintro⟨rfl,h⟩;exact⟨_,⟨rfl,h⟩,rfl⟩
class ZU {α:Type} (e:Wr α):Prop where
 flat:∀{x S S' w w' cs},e.ok x S w cs->e.ok x S' w' cs
instance (k:aAg):ZU (Wr.int k):=⟨fun h=>h⟩
instance:ZU Wr.bool:=⟨fun h=>h⟩
instance:ZU Wr.str:=⟨fun h=>h⟩
instance (T:aAb):ZU (Wr.err T):=⟨fun h=>h⟩
theorem ZU.j7{α:Type}{e:Wr α}[ZU e]{S S' w w'}:∀{xs:List α} {cs},e.j7 xs S w cs->e.j7 xs S' w' cs
 | [],_,h=>h
 |_::_,_,⟨c,d,u,z,A⟩=>⟨c,d,u,ZU.flat z,ZU.j7 A⟩
instance {α:Type} (m:Nat) (e:Wr α) [ZU e]:ZU (Wr.arr m e):=⟨fun h=>⟨h.1,ZU.j7 h.2⟩⟩
instance {α β:Type} (a:Wr α) (b:Wr β) [ZU a] [ZU b]:ZU (Wr.pr a b):=⟨fun h=>let ⟨c,d,h,h1,h2⟩:=h;⟨c,d,h,ZU.flat h1,ZU.flat h2⟩⟩
instance {α:Type} (a:Wr α) [i:ZU a]:ZU (Wr.N8 a):=⟨fun h=>i.flat (e:=a) h⟩
def XL(P:aAe)(f:aAf)(args:List Slot)(res:Slot)(new:List (Nat×XB)):Prop:=
 ∀S w vs ρ,(∀k,S k->k<w.heap.size)->aX ρ S w args vs->Calls P f vs.toArray w fun e h=>∃v,e= .returned v/\ZC ρ S w res new v h
def enum:Nat->List Slot->List (Nat×Slot)
 |_,[]=>[]
 |i,s::r=>(i,s)::enum (i+1) r
theorem Mp{ρ S w}:∀(l:List Slot) (vs:List aAd) (i:Nat),aX ρ S w l vs->∀t s,lk (enum i l) t=some s->i<=t/\∃u,vs[t - i]? =some u/\s.ok ρ S w u
 | [],_,_,_,t,s,h=>by simp[enum,lk] at h
 |x::r,vs,i,z,t,s,h=>by
  simp only[aX] at z;obtain⟨u,A,rfl,B,C⟩:=z;simp only[enum,lk] at h;cases hb:Nat.beq i t with
  |true=>
   rw[hb] at h;simp at h;subst h;have:=D6 hb;subst this;exact⟨ZY _,u,by simp,B⟩
  |false=>
   rw[hb] at h;obtain⟨G,D,E,F⟩:=Mp r A (i+1) C t s h;refine⟨by omega,D,?_,F⟩;have:t - i=(t - (i+1))+1:=(by omega);rw[this];simpa using E
theorem Hm{ρ S w}:∀{l:List Slot} {vs:List aAd},aX ρ S w l vs->vs.length=l.length
 | [],vs,h=>by simp only[aX] at h;simp[h]
 |x::r,vs,h=>by simp only[aX] at h;obtain⟨u,A,rfl,_,z⟩:=h;simp[Hm z]
theorem qZ{P:aAe}{fn:Func}{tmps:Array aAd}{R R':Ending->aAa->Prop}(hR:∀e w,R e w->R' e w):∀{ds:List Deferred} {u:FrameMode} {w:aAa},LeavesInM Fence.wide 0 P fn tmps R ds u w->LeavesInM Fence.wide 0 P fn tmps R' ds u w
 | [],.returning,w,h=>by obtain⟨v,z,A⟩:=h;exact⟨v,z,hR _ _ A⟩
 | [],.panicking chain,w,h=>hR _ _ h
 | [],.run,w,h=>h
 |d::ds,u,w,h=>by
  obtain⟨E,h⟩:=h;refine⟨E,?_⟩;rcases h with⟨r,D,z,A,C⟩|⟨z,F,G,f,H,A,C,I,K⟩
  ·exact .inl ⟨r,D,z,A,qZ hR C⟩
  ·refine .inr ⟨z,F,G,f,H,A,C,I,?_⟩;refine CallsDIn.mono K ?_;intro e L D B;cases e
   ·exact qZ hR B
   ·exact qZ hR B
   ·exact hR _ _ B
theorem Mq{P:aAe}{fn:Func}{R R':Ending->aAa->Prop}(hR:∀e w,R e w->R' e w){e:aAl}{a:aAm}{w:aAa}(h:bodyPostM Fence.wide 0 P fn R e a w):bodyPostM Fence.wide 0 P fn R' e a w:=by
 cases e
 case goto | exit=>exact h.elim
 case normal | ret=>exact qZ hR h
 case panic=>exact qZ hR h
 case outgrown=>exact hR _ _ h
def Pr(F:YP)(fn:Func)(res:Slot)(new:List (Nat×XB)):aAl->aAm->aAa->Prop:=
 bodyPostM Fence.wide 0 F.P fn fun e h=>∃v,e= .returned v/\∀ρ,ZC ρ F.S0 F.w0 res new v h
def xm(P:aAe)(fn:Func)(tmps:Array aAd)(R:aAd->aAa->Prop):List Deferred->aAa->Prop
 | [],w=>∃v,(results fn tmps).run P w= .ok v w/\R v w
 |d::ds,w=>∃r w',d.target= .collected r/\(Instr.takeDeferred r).run P w= .ok [] w'/\xm P fn tmps R ds w'
theorem xm.leaves{P:aAe}{fn:Func}{tmps:Array aAd}{R:aAd->aAa->Prop}{R':Ending->aAa->Prop}(hR:∀v w,R v w->R' (.returned v) w):∀{ds:List Deferred} {w:aAa},xm P fn tmps R ds w->LeavesInM Fence.wide 0 P fn tmps R' ds .returning w
 | [],w,h=>by obtain⟨v,u,z⟩:=h;exact⟨v,u,hR _ _ z⟩
 |d::ds,w,h=>by
  obtain⟨r,A,u,z,B⟩:=h;exact⟨by simp,.inl ⟨r,A,u,z,B.leaves hR⟩⟩
structure al (F F':YP):Prop where
 P:F'.P=F.P
 S:∀k,F.S0 k->F'.S0 k
 size:F.w0.heap.size<=F'.w0.heap.size
 low:∀k,F.S0 k->k<F.w0.heap.size
 frame:∀k,k<F.w0.heap.size->¬F.R k->F'.w0.heap[k]? =F.w0.heap[k]?/\¬F'.R k
 os:F'.w0.os=F.w0.os
 tape:F'.w0.tape=F.w0.tape
 output:F'.w0.output=F.w0.output
 fresh:∀k,F'.R k->F.w0.heap.size<=k\/F.R k
 df:∀d∈F'.df,∃r,d.target= .collected r/\F'.S0 r/\¬F'.R r/\F.w0.heap.size<=r/\F'.w0.heap[r]? =some (.deferred (some []))
 nd:F'.df.Pairwise fun d d'=>d.target≠d'.target
theorem al.refl{F:YP}(hl:∀k,F.S0 k->k<F.w0.heap.size)(hd:F.df=[]):al F F:=
 ⟨rfl,fun _ h=>h,ZY _,hl,fun _ _ h=>⟨rfl,h⟩,rfl,rfl,rfl,fun _ h=> .inr h,by rw[hd];simp,by rw[hd];exact .nil⟩
theorem XL.of{P:aAe}{f:aAf}{fn:Func}{c:aAj}{N:Nat}{args:List Slot}{res:Slot}{new:List (Nat×XB)}
  (hf:P.funcs[f]? =some fn) (hb:fn.body=some c) (hN:fn.ntmps=N) (hle:Nat.ble args.length N=true)
  (h:∀S w,al ⟨P,N,S,w,fun _=>False,none,[]⟩ ⟨P,N,S,w,fun _=>False,none,[]⟩->W ⟨P,N,S,w,fun _=>False,none,[]⟩ [c] ⟨enum 0 args,[]⟩ (Pr ⟨P,N,S,w,fun _=>False,none,[]⟩ fn res new)):XL P f args res new:=by
 intro S w vs ρ r8 hv;refine(callsIn_wide (n:=0)).1 (callsIn_of_wp_marks hf hb trivial ?_);have K:=Hm hv;have hle:=E7 hle;have E:St ⟨P,N,S,w,fun _=>False,none,[]⟩ ⟨enum 0 args,[]⟩ { tmps:=vs.toArray++Array.replicate (fn.ntmps - vs.toArray.size) undef,defers:=[] } w:= ?_
 ·have z:c.wpIn Fence.wide 0 P (Exit.then (run Fence.wide P (Pr ⟨P,N,S,w,fun _=>False,none,[]⟩ fn res new) []) (Pr ⟨P,N,S,w,fun _=>False,none,[]⟩ fn res new)) { tmps:=vs.toArray++Array.replicate (fn.ntmps - vs.toArray.size) undef,defers:=[] } w:=h S w (.refl r8 rfl) _ w E;refine wpIn_mono z ?_;have F:∀e a w',Pr ⟨P,N,S,w,fun _=>False,none,[]⟩ fn res new e a w'->bodyPostM Fence.wide 0 P fn (fun e w'=>∃v,e= .returned v/\ZC ρ S w res new v w') e a w':=fun e a w' C=>Mq (fun e w ⟨v,z,D⟩=>⟨v,z,D ρ⟩) C;intro e a w' C;cases e<;>exact F _ _ _ C
 ·refine⟨⟨ρ,⟨r8,ZY _,fun _ _ _=>rfl,rfl,rfl,rfl,fun i B h=>by simp[aY] at h,fun i B b h=>by simp[aY] at h,fun i j B L b h=>by simp[aY] at h,fun i B b h=>by simp[aY] at h⟩,fun t s H=>?_⟩,?_,rfl⟩
  ·obtain⟨_,u,z,D⟩:=Mp args vs 0 hv t s H;have G:t<vs.length:=by
    rcases R8 t vs.length with h | h
    ·exact h
    ·simp[dc h] at z
   have:(vs.toArray++Array.replicate (fn.ntmps - vs.toArray.size) undef).getD t undef=u:=by
    rw[sf,aDn (by simpa using G)];simp at z ⊢;rw[z];rfl
   rw[this];exact Slot.WY s u D ⟨ZY _,fun k _ I=>⟨rfl,fun A=>I (by rcases A with A |⟨i,B,A,_⟩;exact A;simp[aY] at A)⟩⟩ (fun _ _=>rfl)
  ·simp only[aEm,aD9,aEn];omega
def wW(a:aAm):ResultVar->Sem aAd
 | .tmp t=>pure (a.tmps.getD t undef)
 | .cell c t=>do loadVar t (<-asAddr (a.tmps.getD c undef))
def RV(F:YP)(O:AS)(rv:ResultVar)(s:Slot):Prop:=
 ∀(ρ:Nat->LV) (a:aAm) (w:aAa),Core F O.d ρ w->(∀t s,lk O.g t=some s->s.ok ρ (Un F.S0 ρ O.d) w (a.tmps.getD t undef))->
  ∃v,(wW a rv).run F.P w= .ok v w/\s.ok ρ (Un F.S0 ρ O.d) w v
theorem RV.tmp{F:YP}{O:AS}{t:Tmp}{s:Slot}(h:lk O.g t=some s):RV F O (.tmp t) s:=fun _ a _ _ u=>⟨a.tmps.getD t undef,rfl,u t s h⟩
inductive G0:List (Nat×XB)->List (Nat×XB)->Prop
 |nil {d}:G0 [] d
 |cons {d i en r}:aY d i=some en->G0 r d->G0 ((i,en)::r) d
theorem G0.spec{n d:List (Nat×XB)}(h:G0 n d):∀i en,aY n i=some en->aY d i=some en:=by
 induction h with
 |nil=>intro i en h;simp[aY] at h
 |cons u _ z=>
  rename_i j A r _;intro i en h;simp only[aY] at h;cases hb:Nat.beq j i with
  |true=>have:=D6 hb;subst this;rw[hb] at h;simp at h;subst h;exact u
  |false=>rw[hb] at h;exact z i en h
def lG(res:Slot)(new:List (Nat×XB)):Bool:=res.ZR.all (fun i=>(aY new i).isSome) && new.all fun x=>x.2.ZR.all fun i=>(aY new i).isSome
theorem ZC.C1{F:YP}{O:AS}{ρ:Nat->LV}{w:aAa}{v:aAd}{res:Slot}{new:List (Nat×XB)}(hR:∀k,¬F.R k)(hc:Core F O.d ρ w)(hr:res.ok ρ (Un F.S0 ρ O.d) w v)
  (hn:G0 new O.d) (ZW:lG res new=true) (ρ0:Nat->LV):ZC ρ0 F.S0 F.w0 res new v w:=by
 have A:=hn.spec;simp only[lG,K0,y8] at ZW;let ρ':Nat->LV:=fun i=>if (aY new i).isSome then ρ i else ρ0 i
 have z:∀i,(aY new i).isSome=true->ρ' i=ρ i:=fun i h=>YC h
 have H:Ext (Un F.S0 ρ O.d) (Un F.S0 ρ' new) w w:=⟨ZY _,fun k _ E=>⟨rfl,fun h=>E (by
  rcases h with h |⟨i,u,D,G⟩
  ·exact .inl h
  ·exact .inr ⟨i,u,A i u D,by rw[<-z i (by rw[D];rfl)];exact G⟩)⟩⟩
 refine⟨ρ',fun i h=>by simp[ρ',h],⟨hc.os,hc.tape,hc.output,hc.size,fun k E=>hc.frame k E (hR k)⟩,Slot.WY res v hr H (fun i B=>congrArg LV.v (z i (ZW.1 i B))),⟨fun i u h=>?_,fun i u b h I=>?_,fun i j u K b B C L M=>?_⟩⟩
 ·rw[z i (by rw[h];rfl)];exact XB.WY (hc.own i u (A i u h)) H (fun j C=>congrArg LV.v (z j (ZW.2 _ (mW h) j C))) (fun _ _=>rfl)
 ·rw[z i (by rw[h];rfl)] at I;obtain⟨D,G⟩:=hc.fresh i u b (A i u h) I;exact⟨D.resolve_right (hR b),G⟩
 ·rw[z i (by rw[B];rfl)] at L;rw[z j (by rw[C];rfl)] at M;exact hc.inj i j u K b (A i u B) (A j K C) L M
theorem xS(fn:Func)(a:aAm):results fn a.tmps=(do
  let vs<-fn.results.mapM (wW a)
  pure (if h:vs.size=1 then vs[0] else .tuple vs)):=rfl
theorem AX{P:aAe}{S0:Nat->Prop}{B:Nat}:∀(ds:List Deferred) (w:aAa),(∀d∈ds,∃r,d.target= .collected r/\S0 r/\B<=r/\w.heap[r]? =some (.deferred (some [])))->ds.Pairwise (fun d d'=>d.target≠d'.target)->
  ∃w',w'.heap.size=w.heap.size/\(∀k,¬(S0 k/\B<=k)->w'.heap[k]? =w.heap[k]?)/\w'.os=w.os/\w'.tape=w.tape/\w'.output=w.output/\
   ∀fn tmps R,(∃v,(results fn tmps).run P w'= .ok v w'/\R v w')->xm P fn tmps R ds w
 | [],w,_,_=>⟨w,rfl,fun _ _=>rfl,rfl,rfl,rfl,fun _ _ _ h=>h⟩
 |d::ds,w,h,z=>by
  obtain⟨r,D,H,I,K⟩:=h d dg;rw[List.pairwise_cons] at z;have F:∀e∈ds,∃u,e.target= .collected u/\S0 u/\B<=u/\(w.putObj r (.deferred none)).heap[u]? =some (.deferred (some [])):=by
   intro e A;obtain⟨u,E,L,M,N⟩:=h e (cz _ A);refine⟨u,E,L,M,?_⟩;rw[World.putObj_heap_other];exact N;rintro rfl;exact z.1 e A (D.trans E.symm)
  obtain⟨w',O,Q,S,T,U,V⟩:=AX ds (w.putObj r (.deferred none)) F z.2;refine⟨w',by rw[O,World.putObj_size],fun k C=>?_,S,T,U,fun fn tmps R G=>⟨r,_,D,run_takeDeferred K,V fn tmps R G⟩⟩;rw[Q k C,World.putObj_heap_other];rintro rfl;exact C ⟨H,I⟩
theorem Core.leave{F F':YP}{d:List (Nat×XB)}{ρ:Nat->LV}{w:aAa}(hF:al F F')(hc:Core F' d ρ w):∃w',Core F d ρ w'/\Ext (Un F'.S0 ρ d) (Un F.S0 ρ d) w w'/\
  ∀fn tmps R,(∃v,(results fn tmps).run F.P w'= .ok v w'/\R v w')->xm F.P fn tmps R F'.df w:=by
 have K:∀x∈F'.df,∃r,x.target= .collected r/\F'.S0 r/\F.w0.heap.size<=r/\w.heap[r]? =some (.deferred (some [])):=by
  intro x D;obtain⟨r,z,C,Q,T,I⟩:=hF.df x D;exact⟨r,z,C,T,by rw[hc.frame r (aBn.1 I).1 Q];exact I⟩
 obtain⟨w',E,G,U,V,X,a6⟩:=AX (P:=F.P) F'.df w K hF.nd;have L:∀k,Un F.S0 ρ d k->Un F'.S0 ρ d k:=fun k h=>h.imp (hF.S k) (fun h=>h);have H:Ext (Un F'.S0 ρ d) (Un F.S0 ρ d) w w':=⟨by rw[E];exact ZY _,fun k _ B=>⟨G k fun h=>B (.inl h.1),fun h=>B (L k h)⟩⟩;have M:∀i u b,aY d i=some u->qX (ρ i) b->w'.heap[b]? =w.heap[b]? :=fun i u b h A=>G b fun D=>hc.apart i u b h A D.1
 refine⟨w',⟨hF.low,by rw[E];exact ik hF.size hc.size,fun k B N=>?_,U.trans (hc.os.trans hF.os),V.trans (hc.tape.trans hF.tape),X.trans (hc.output.trans hF.output),fun i u h=>XB.WY (hc.own i u h) H (fun _ _=>rfl) (fun b A=>M i u b h A),
  fun i u b h A=>?_,hc.inj,fun i u b h A O=>hc.apart i u b h A (hF.S b O)⟩,H,a6⟩
 ·obtain⟨z,C⟩:=hF.frame k B N;rw[G k (fun h=>by omega),hc.frame k (X0 B hF.size) C,z]
 ·obtain⟨z,C⟩:=hc.fresh i u b h A;refine⟨?_,by rw[E];exact C⟩;rcases z with z | z
  ·exact .inl (ik hF.size z)
  ·exact hF.fresh b z
theorem yU{F F':YP}{O:AS}{fn:Func}{R:Ending->aAa->Prop}(hF:al F F')
  (h:∀(ρ:Nat->LV) (a:aAm) (w:aAa),Core F O.d ρ w->(∀t s,lk O.g t=some s->s.ok ρ (Un F.S0 ρ O.d) w (a.tmps.getD t undef))->∃v,(results fn a.tmps).run F.P w= .ok v w/\R (.returned v) w):
  XQ F' O (bodyPostM Fence.wide 0 F.P fn R) .ret:=by
 intro a w z;obtain⟨⟨ρ,B,C⟩,K,D⟩:=z;obtain⟨E,G,H,I⟩:=B.leave hF;have u:=h ρ a E G fun t s A=>Slot.WY s _ (C t s A) H (fun _ _=>rfl);show LeavesInM Fence.wide 0 F.P fn a.tmps R a.defers .returning w;rw[D];exact(I fn a.tmps (fun v w=>R (.returned v) w) u).leaves fun _ _ h=>h
theorem Ur{P:aAe}{fn:Func}{a:aAm}{w:aAa}{rv:ResultVar}{v:aAd}(F4:fn.results= #[rv])(h1:(wW a rv).run P w= .ok v w):(results fn a.tmps).run P w= .ok v w:=by
 rw[xS,F4];simp only[aDy,aCt,aEs,Sem.run_bind,Sem.run_map,h1,Result.andThen_ok,Sem.run_pure];simp
theorem Us{P:aAe}{fn:Func}{a:aAm}{w:aAa}{rv ly:ResultVar}{v v':aAd}(F4:fn.results= #[rv,ly])(h1:(wW a rv).run P w= .ok v w)(E6:(wW a ly).run P w= .ok v' w):(results fn a.tmps).run P w= .ok (.tuple #[v,v']) w:=by
 rw[xS,F4];simp only[aDy,aCt,aEs,Sem.run_bind,Sem.run_map,h1,E6,Result.andThen_ok,Sem.run_pure];simp
theorem Ut{P:aAe}{fn:Func}{a:aAm}{w:aAa}{rv ly rv2:ResultVar}{v v' v2:aAd}(F4:fn.results= #[rv,ly,rv2])(h1:(wW a rv).run P w= .ok v w)(E6:(wW a ly).run P w= .ok v' w)(np:(wW a rv2).run P w= .ok v2 w):(results fn a.tmps).run P w= .ok (.tuple #[v,v',v2]) w:=by
 rw[xS,F4];simp only[aDy,aCt,aEs,Sem.run_bind,Sem.run_map,h1,E6,np,Result.andThen_ok,Sem.run_pure];simp
theorem SY{ρ:Nat->LV}{S:Nat->Prop}{w:aAa}{s s':Slot}{v v':aAd}(h2:s.ok ρ S w v)(D3:s'.ok ρ S w v'):(Slot.XU [s,s']).ok ρ S w (.tuple #[v,v']):=by
 simp only[Slot.ok];exact⟨[v,v'],rfl,by simp only[aX];exact⟨v,_,rfl,h2,v',_,rfl,D3,rfl⟩⟩
theorem SZ{ρ:Nat->LV}{S:Nat->Prop}{w:aAa}{s s' s2:Slot}{v v' v2:aAd}(h2:s.ok ρ S w v)(D3:s'.ok ρ S w v')(h22:s2.ok ρ S w v2):(Slot.XU [s,s',s2]).ok ρ S w (.tuple #[v,v',v2]):=by
 simp only[Slot.ok];exact⟨[v,v',v2],rfl,by simp only[aX];exact⟨v,_,rfl,h2,v',_,rfl,D3,v2,_,rfl,h22,rfl⟩⟩
section
variable {F F':YP}{O:AS}{fn:Func}{rv ly rv2:ResultVar}{res s s' s2:Slot}{new:List (Nat×XB)}
theorem aW(hF:al F F')(hR:∀k,¬F.R k)(F4:fn.results= #[rv])(h:RV F O rv res)(hn:G0 new O.d)(ZW:lG res new=true):XQ F' O (Pr F fn res new) .ret:=
 yU hF fun ρ a w u z=>by
  obtain⟨v,A,B⟩:=h ρ a w u z;exact⟨v,Ur F4 A,v,rfl,ZC.C1 hR u B hn ZW⟩
theorem bS(hF:al F F')(hR:∀k,¬F.R k)(F4:fn.results= #[rv,ly])(h:RV F O rv s)(h':RV F O ly s')(hn:G0 new O.d)(ZW:lG (.XU [s,s']) new=true):XQ F' O (Pr F fn (.XU [s,s']) new) .ret:=
 yU hF fun ρ a w u z=>by
  obtain⟨v,A,B⟩:=h ρ a w u z;obtain⟨E,C,D⟩:=h' ρ a w u z;exact⟨_,Us F4 A C,_,rfl,ZC.C1 hR u (SY B D) hn ZW⟩
theorem xA(hF:al F F')(hR:∀k,¬F.R k)(F4:fn.results= #[rv,ly,rv2])(h:RV F O rv s)(h':RV F O ly s')(h'':RV F O rv2 s2)(hn:G0 new O.d)(ZW:lG (.XU [s,s',s2]) new=true):XQ F' O (Pr F fn (.XU [s,s',s2]) new) .ret:=
 yU hF fun ρ a w u z=>by
  obtain⟨v,A,B⟩:=h ρ a w u z;obtain⟨H,C,D⟩:=h' ρ a w u z;obtain⟨I,E,G⟩:=h'' ρ a w u z;exact⟨_,Ut F4 A C E,_,rfl,ZC.C1 hR u (SZ B D G) hn ZW⟩
end
end Go.Sw
namespace Go.Sw
open Go Go.RowKit
theorem ZC.same{ρ:Nat->LV}{S:Nat->Prop}{w:aAa}{s:Slot}{v:aAd}(h:s.ok ρ S w v):ZC ρ S w s [] v w:=
 ⟨ρ,fun _ _=>rfl,Below.refl _ _,Slot.WY s v h ⟨ZY _,fun k _ u=>⟨rfl,fun h=>u (by
  rcases h with h |⟨i,A,z,_⟩
  ·exact h
  ·simp[aY] at z)⟩⟩ (fun _ _=>rfl),⟨fun _ _ h=>by simp[aY] at h,fun _ _ _ h=>by simp[aY] at h,fun _ _ _ _ _ h=>by simp[aY] at h⟩⟩
theorem yV(k:aAg)(n:Int):Dh k (k.wrap n):=by
 unfold Dh;cases k<;>simp only[IntKind.min,IntKind.max,IntKind.wrap,IntKind.signed,IntKind.bits]<;>simp<;>(try split)<;>omega
section
variable {F:YP}{O:AS}{s:Slot}{d:Option Tmp}{ty:aAb}{p:String}{af:Array Edge}{gd:Option (Nat×Bool)}{x y c:aAc}
theorem aD(hx:dH O.g x=some s):JO F ⟨d,.move x,ty,p,af,gd⟩ O s []:=
 fun _ _ _ w K=>XC.value (w':=w) (by simp[execOp]) (ZC.same (K.slot x (by simp[Op.operands]) s hx))
theorem bN(hx:dH O.g x=some s):JO F ⟨d,.assign x,ty,p,af,gd⟩ O s []:=
 fun _ _ _ w K=>XC.value (w':=w) (by simp[execOp]) (ZC.same (K.slot x (by simp[Op.operands]) s hx))
theorem Uu{α:Type}(e:Wr α)(ρ:Nat->LV)(S:Nat->Prop)(w:aAa):(Slot.v (Wr.sl e) []).ok ρ S w (.slice none 0 0):=by
 simp only[Slot.ok];exact sP.2 ⟨none,0,rfl,by simp,.inl rfl⟩
theorem mX{α:Type}(e:Wr α):JO F ⟨d,.assign (.const (.slice none 0 0)),ty,p,af,gd⟩ O (.v (Wr.sl e) []) []:=
 fun ρ S _ w _=>XC.value (w':=w) (by simp[execOp,Act.eval]) (ZC.same (Uu e ρ S w))
theorem Qn(T:aAb)(ρ:Nat->LV)(S:Nat->Prop)(w:aAa):(Slot.v (Wr.err T) none).ok ρ S w .nilIface:=by
 simp only[Slot.ok];exact Bb.2 rfl
theorem zM(T:aAb):JO F ⟨d,.assign (.const .nilIface),ty,p,af,gd⟩ O (.v (Wr.err T) none) []:=
 fun ρ S _ w _=>XC.value (w':=w) (by simp[execOp,Act.eval]) (ZC.same (Qn T ρ S w))
theorem Mr{α:Type}{w:aAa}{S:Nat->Prop}(T:aAb)(e:Wr α)(i:Nat)(ρ:Nat->LV):ZC ρ S w (.ref i) [(i,.arr T e [])] (.slice none 0 0) w:=by
 refine⟨fun j=>if j=i then .of (.slice none 0 0) else ρ j,fun j A=>?_,Below.refl _ _,by simp only[Slot.ok,r7];exact⟨.inl ⟨_,_,_,rfl⟩,rfl⟩,⟨fun j z h=>?_,fun j z b h u=>?_,fun j k z B b h C u _=>?_⟩⟩
 ·have:j≠i:=fun e=>by subst e;simp[aY] at A
  simp[this]
 ·simp only[aY] at h;cases u:Nat.beq i j with
  |true=>have:=D6 u;subst this;rw[u] at h;simp at h;subst h;exact .inl ⟨rfl,by simp[LV.of]⟩
  |false=>rw[u] at h;simp at h
 ·simp only[aY] at h;cases hc:Nat.beq i j with
  |true=>have:=D6 hc;subst this;simp[pN,j1] at u
  |false=>rw[hc] at h;simp at h
 ·simp only[aY] at h;cases hc:Nat.beq i j with
  |true=>have:=D6 hc;subst this;simp[pN,j1] at u
  |false=>rw[hc] at h;simp at h
theorem aS{α:Type}(i:Nat)(T:aAb)(e:Wr α):JO F ⟨d,.assign (.const (.slice none 0 0)),ty,p,af,gd⟩ O (.ref i) [(i,.arr T e [])]:=
 fun ρ _ _ w _=>XC.value (w':=w) (by simp[execOp,Act.eval]) (Mr T e i ρ)
theorem Yh{O:AS}{xs:Array aAc}{ρ S a w}(K:B3 O xs ρ S a w){x:aAc}(hm:x∈xs){b:Bool}(hx:dH O.g x=some (.v Wr.bool b)):a.eval x= .bool b:=by
 have:=K.slot x hm _ hx;simp only[Slot.ok] at this;exact zV.1 this
theorem fY{O:AS}{xs:Array aAc}{ρ S a w}(K:B3 O xs ρ S a w){x:aAc}(hm:x∈xs){k:aAg}{n:Int}(hx:dH O.g x=some (.v (Wr.int k) n)):a.eval x= .int k n/\Dh k n:=by
 have:=K.slot x hm _ hx;simp only[Slot.ok] at this;exact vW.1 this
theorem nR(b:Bool)(ρ:Nat->LV)(S:Nat->Prop)(w:aAa):(Slot.v Wr.bool b).ok ρ S w (.bool b):=by simp only[Slot.ok];exact zV.2 rfl
theorem tP{k:aAg}{n:Int}(h:Dh k n)(ρ:Nat->LV)(S:Nat->Prop)(w:aAa):(Slot.v (Wr.int k) n).ok ρ S w (.int k n):=by simp only[Slot.ok];exact vW.2 ⟨rfl,h⟩
theorem HA(hc:dH O.g c=some (.v Wr.bool true))(hx:dH O.g x=some s):JO F ⟨d,.pick c x y,ty,p,af,gd⟩ O s []:=
 fun _ _ _ w K=>XC.value (w':=w) (by simp[execOp,Yh K (x:=c) (by simp[Op.operands]) hc,asBool]) (ZC.same (K.slot x (by simp[Op.operands]) s hx))
theorem HB(hc:dH O.g c=some (.v Wr.bool false))(hy:dH O.g y=some s):JO F ⟨d,.pick c x y,ty,p,af,gd⟩ O s []:=
 fun _ _ _ w K=>XC.value (w':=w) (by simp[execOp,Yh K (x:=c) (by simp[Op.operands]) hc,asBool]) (ZC.same (K.slot y (by simp[Op.operands]) s hy))
theorem Be{o:BinOp}{T T':aAb}{v:aAd}{k k':aAg}{m n:Int}{ρ:Nat->LV}{S:Nat->Prop}
  {a:aAm} {w:aAa} {s:Slot} (h1:a.eval x= .int k m) (h2:a.eval y= .int k' n) (h:(Go.binOp o T (.int k m) (.int k' n)).run F.P w= .ok v w) (hs:s.ok ρ S w v):
  XC F.P ⟨d,.binOp o T x y T',ty,p,af,gd⟩ a w (ZC ρ S w s []):=by
 refine XC.value (w':=w) (v:=v) ?_ (ZC.same hs);simp only[execOp,h1,h2];have:(eqGuard o T x y (.int k m) (.int k' n)).run F.P w= .ok () w:=by
  unfold eqGuard;by_cases u:(!(match o with | .eql | .neq=>true | _=>false))=true
  ·cases o<;>simp at u<;>simp
  ·cases o<;>simp at u<;>simp
 simp[this,h]
def ar(o:BinOp)(k:aAg)(m n:Int):Int:=
 match o with
 | .add=>k.wrap (m+n)
 | .sub=>k.wrap (m - n)
 | .mul=>k.wrap (m*n)
 | .quo=>k.wrap (m.tdiv n)
 | .rem=>m.tmod n
 | .and=>k.wrap (BitVec.ofInt k.bits m &&& BitVec.ofInt k.bits n).toNat
 | .or=>k.wrap (BitVec.ofInt k.bits m ||| BitVec.ofInt k.bits n).toNat
 | .xor=>k.wrap (BitVec.ofInt k.bits m ^^^ BitVec.ofInt k.bits n).toNat
 | .andNot=>k.wrap (BitVec.ofInt k.bits m &&& ~~~ BitVec.ofInt k.bits n).toNat
 |_=>0
def cm(o:BinOp)(m n:Int):Bool:=
 match o with
 | .eql=>m==n
 | .neq=>m != n
 | .lss=>decide (m<n)
 | .leq=>decide (m<=n)
 | .gtr=>decide (m>n)
 | .geq=>decide (m>=n)
 |_=>false
def QK:BinOp->Bool
 | .add | .sub | .mul | .and | .or | .xor | .andNot=>true
 |_=>false
def TA:BinOp->Bool
 | .eql | .neq | .lss | .leq | .gtr | .geq=>true
 |_=>false
theorem cZ{o:BinOp}{T T':aAb}{k:aAg}{m n:Int}(ho:QK o=true)(hx:dH O.g x=some (.v (Wr.int k) m))(hy:dH O.g y=some (.v (Wr.int k) n)):
  JO F ⟨d,.binOp o T x y T',ty,p,af,gd⟩ O (.v (Wr.int k) (ar o k m n)) []:=by
 intro ρ S a w K;refine Be (fY K (by simp[Op.operands]) hx).1 (fY K (by simp[Op.operands]) hy).1 (v:= .int k (ar o k m n)) ?_ (tP ?_ ρ S w)
 ·cases o<;>simp[QK] at ho<;>simp[binOp,Op.intArith,Op.intBits,ar]
 ·cases o<;>simp[QK] at ho<;>exact yV _ _
theorem MO{k:aAg}{m n:Int}(h:Dh k m):Dh k (m.tmod n):=by
 unfold Dh at*;have u:(m.tmod n).natAbs<=m.natAbs:=by rw[Int.natAbs_tmod];exact Nat.mod_le _ _
 have z:0<=m->0<=m.tmod n:=fun h=>aEy _ h;have A:m<=0->m.tmod n<=0:=fun h=>by
  have:=aEy n (a:= -m) (by omega);rw[Int.neg_tmod] at this;omega
 have B:k.min<=0:=by cases k<;>decide
 have C:0<=k.max:=by cases k<;>decide
 omega
theorem kT{o:BinOp}{T T':aAb}{k:aAg}{m n:Int}(ho:o= .quo\/o= .rem)(hn:n≠0)(hx:dH O.g x=some (.v (Wr.int k) m))(hy:dH O.g y=some (.v (Wr.int k) n)):
  JO F ⟨d,.binOp o T x y T',ty,p,af,gd⟩ O (.v (Wr.int k) (ar o k m n)) []:=by
 intro ρ S a w K;refine Be (fY K (by simp[Op.operands]) hx).1 (fY K (by simp[Op.operands]) hy).1 (v:= .int k (ar o k m n)) ?_ (tP ?_ ρ S w)
 ·rcases ho with rfl | rfl<;>simp[binOp,Op.intDiv,hn,ar]
 ·rcases ho with rfl | rfl
  ·exact yV _ _
  ·exact MO (fY K (by simp[Op.operands]) hx).2
theorem jU{o:BinOp}{T T':aAb}{k:aAg}{m n:Int}(ho:TA o=true)(hx:dH O.g x=some (.v (Wr.int k) m))(hy:dH O.g y=some (.v (Wr.int k) n)):
  JO F ⟨d,.binOp o T x y T',ty,p,af,gd⟩ O (.v Wr.bool (cm o m n)) []:=by
 intro ρ S a w K;refine Be (fY K (by simp[Op.operands]) hx).1 (fY K (by simp[Op.operands]) hy).1 (v:= .bool (cm o m n)) ?_ (nR _ ρ S w);cases o<;>simp[TA] at ho<;>simp[binOp,Op.intCmp,cm]
def sh(o:BinOp)(k:aAg)(m n:Int):Int:=
 match o with
 | .shl=>k.wrap (m*2 ^ min n.toNat k.bits)
 | .shr=>m.fdiv (2 ^ min n.toNat k.bits)
 |_=>0
theorem QL{k:aAg}{m:Int}(h:Dh k m)(j:Nat):Dh k (m.fdiv (2 ^ j)):=by
 unfold Dh at*;have u:(0:Int)<2 ^ j:=aEz (by decide);have z:k.min<=0:=by cases k<;>decide
 have A:0<=k.max:=by cases k<;>decide
 rw[ye _ (aEe u)];constructor
 ·refine(Int.le_ediv_iff_mul_le u).2 ?_;have:k.min*2 ^ j<=k.min*1:=Int.mul_le_mul_of_nonpos_left z (by omega);omega
 ·refine Int.le_trans (Int.ediv_le_ediv u h.2) ?_;exact Int.ediv_le_self _ A
theorem fF{o:BinOp}{T T':aAb}{k k':aAg}{m n:Int}(ho:o= .shl\/o= .shr)(hn:0<=n)(hx:dH O.g x=some (.v (Wr.int k) m))(hy:dH O.g y=some (.v (Wr.int k') n)):
  JO F ⟨d,.binOp o T x y T',ty,p,af,gd⟩ O (.v (Wr.int k) (sh o k m n)) []:=by
 intro ρ S a w K;refine Be (fY K (by simp[Op.operands]) hx).1 (fY K (by simp[Op.operands]) hy).1 (v:= .int k (sh o k m n)) ?_ (tP ?_ ρ S w)
 ·have:¬n<0:=by omega
  rcases ho with rfl | rfl<;>simp[binOp,Op.shift,this,sh]
 ·rcases ho with rfl | rfl
  ·exact yV _ _
  ·exact QL (fY K (by simp[Op.operands]) hx).2 _
theorem Ji{T:aAb}{b:Bool}(hx:dH O.g x=some (.v Wr.bool b)):JO F ⟨d,.unOp .not T x,ty,p,af,gd⟩ O (.v Wr.bool (!b)) []:=
 fun ρ S _ w K=>XC.value (w':=w) (v:= .bool (!b)) (by simp[execOp,Yh K (x:=x) (by simp[Op.operands]) hx,Op.unary]) (ZC.same (nR _ ρ S w))
theorem Yi{T:aAb}{k:aAg}{n:Int}(hx:dH O.g x=some (.v (Wr.int k) n)):JO F ⟨d,.unOp .neg T x,ty,p,af,gd⟩ O (.v (Wr.int k) (k.wrap (0 - n))) []:=
 fun ρ S _ w K=>XC.value (w':=w) (v:= .int k (k.wrap (0 - n))) (by simp[execOp,(fY K (x:=x) (by simp[Op.operands]) hx).1,Op.unary,Op.intArith]) (ZC.same (tP (yV _ _) ρ S w))
def DL(k:aAg)(n:Int):Int:=k.wrap (BitVec.ofInt k.bits (if k.signed then -1 else k.max) ^^^ BitVec.ofInt k.bits n).toNat
theorem QM{T:aAb}{k:aAg}{n:Int}(hx:dH O.g x=some (.v (Wr.int k) n)):JO F ⟨d,.unOp .xor T x,ty,p,af,gd⟩ O (.v (Wr.int k) (DL k n)) []:=
 fun ρ S _ w K=>XC.value (w':=w) (v:= .int k (DL k n)) (by simp[execOp,(fY K (x:=x) (by simp[Op.operands]) hx).1,Op.unary,Op.intBits,DL]) (ZC.same (tP (yV _ _) ρ S w))
theorem AY{A B:aAb}{da:TypeDesc}{k k':aAg}{n:Int}(ha:∀w,(underlying A).run F.P w= .ok da w)(hb:∀w,(underlying B).run F.P w= .ok (.int k') w)(hx:dH O.g x=some (.v (Wr.int k) n)):
  JO F ⟨d,.convert A B x,ty,p,af,gd⟩ O (.v (Wr.int k') (k'.wrap n)) []:=
 fun ρ S _ w K=>XC.value (w':=w) (v:= .int k' (k'.wrap n)) (by simp[execOp,(fY K (x:=x) (by simp[Op.operands]) hx).1,convert,ha,hb,Conv.intToInt]) (ZC.same (tP (yV _ _) ρ S w))
theorem HC{T:aAb}{n:Int}(ha:∀w,(underlying T).run F.P w= .ok (.int .i64) w)(hx:dH O.g x=some (.v (Wr.int .i64) n)):
  JO F ⟨d,.makeInterface T x,ty,p,af,gd⟩ O (.v (Wr.err T) (some n)) []:=by
 intro ρ S a w K;obtain⟨h,u⟩:=fY K (x:=x) (by simp[Op.operands]) hx;exact XC.value (w':=w) (v:= .iface T (.int .i64 n)) (by simp[execOp,h,Instr.makeInterface,ha]) (ZC.same (by simp only[Slot.ok];exact Bc.2 ⟨rfl,u⟩))
theorem bW{n:Nat}{l:List Slot}(hx:dH O.g x=some (.XU l))(hs:l[n]? =some s):JO F ⟨d,.extract x n,ty,p,af,gd⟩ O s []:=by
 intro ρ S a w K;have h:=K.slot x (by simp[Op.operands]) _ hx;simp only[Slot.ok] at h;obtain⟨vs,E,G⟩:=h;have D:∀(l:List Slot) (vs:List aAd) (n:Nat),aX ρ S w l vs->l[n]? =some s->∃v,vs[n]? =some v/\s.ok ρ S w v:=by
  intro l
  induction l with
  |nil=>intro vs n _ h;simp at h
  |cons t l I=>
   intro vs n C z;simp only[aX] at C;obtain⟨u,H,rfl,A,B⟩:=C;cases n with
   |zero=>simp at z;subst z;exact⟨u,rfl,A⟩
   |succ n=>exact I H n B (by simpa using z)
 obtain⟨v,A,B⟩:=D l vs n G hs;exact XC.value (w':=w) (v:=v) (by simp[execOp,E,Instr.extract,A]) (ZC.same B)
theorem AZ{O:AS}{xs:Array aAc}{ρ S a w}(K:B3 O xs ρ S a w){x:aAc}(hm:x∈xs){T:aAb}{o:Option Int}(hx:dH O.g x=some (.v (Wr.err T) o)):
  a.eval x=(match o with | none=> .nilIface | some n=> .iface T (.int .i64 n)):=by
 have:=K.slot x hm _ hx;simp only[Slot.ok] at this;cases o with
 |none=>exact Bb.1 this
 |some n=>exact(Bc.1 this).1
theorem Uv(t:aAb)(x y:aAd):Op.equal t x y=Op.equalIn (9998+1+1) t x y:=rfl
theorem Yj{P:aAe}{a:aAm}{w:aAa}{o:BinOp}{T T':aAb}{u v:aAd}{r b:Bool}(ho:(o= .eql/\b=r)\/(o= .neq/\b= !r))(hx:a.eval x=u)(hy:a.eval y=v)
  (hk:∀k m,u≠.int k m) (hs:∀s,u≠.string s) (hf:∀k m,u≠.float k m) (hc:∀k m n,u≠.complex k m n)
  (hg:(eqGuard o T x y u v).run P w= .ok () w) (he:(Op.equalIn (9998+1+1) T u v).run P w= .ok r w):
  (execOp a.eval ⟨d,.binOp o T x y T',ty,p,af,gd⟩).run P w= .ok (.value (.bool b)) w:=by
 have h:(Go.binOp o T u v).run P w= .ok (.bool b) w:=by
  rcases ho with⟨rfl,rfl⟩|⟨rfl,rfl⟩
  ·have:Go.binOp .eql T u v=(do pure (.bool (<-Op.equal T u v))):=by
    cases u<;>first | rfl | (exact absurd rfl (hk _ _)) | (exact absurd rfl (hs _)) | (exact absurd rfl (hf _ _)) | (exact absurd rfl (hc _ _ _))
   rw[this,Uv];simp[he]
  ·have:Go.binOp .neq T u v=(do pure (.bool (!(<-Op.equal T u v)))):=by
    cases u<;>first | rfl | (exact absurd rfl (hk _ _)) | (exact absurd rfl (hs _)) | (exact absurd rfl (hf _ _)) | (exact absurd rfl (hc _ _ _))
   rw[this,Uv];simp[he]
 simp only[execOp,hx,hy];simp[hg,h]
theorem HD{P:aAe}{w:aAa}{U T:aAb}{ms:Array (String×aAb)}{ti:TypeInfo}(ha:∀w,(underlying U).run P w= .ok (.interface ms) w)(hT:∀w,(underlying T).run P w= .ok (.int .i64) w)
  (hi:∀w,(typeInfo T).run P w= .ok ti w) (rh:ti.comparable=true) (m n:Int):(Op.equalIn (9998+1+1) U (.iface T (.int .i64 m)) (.iface T (.int .i64 n))).run P w= .ok (m==n) w:=by
 rw[Op.equalIn];simp only[Sem.run_bind,ha,Result.andThen_ok];simp only[ne_eq,aC1,r5,Sem.run_bind,hi,Result.andThen_ok,rh,lu,V6];rw[Op.equalIn];simp[hT]
theorem Di{P:aAe}{w:aAa}{U T:aAb}{ms:Array (String×aAb)}(ha:∀w,(underlying U).run P w= .ok (.interface ms) w)(v:aAd):(Op.equalIn (9998+1+1) U (.iface T v) .nilIface).run P w= .ok false w/\(Op.equalIn (9998+1+1) U .nilIface (.iface T v)).run P w= .ok false w/\(Op.equalIn (9998+1+1) U .nilIface .nilIface).run P w= .ok true w:=by
 refine⟨?_,?_,?_⟩<;>(rw[Op.equalIn];simp[ha])
theorem iI{T U U':aAb}{o:Option Int}{ms:Array (String×aAb)}(ha:∀w,(underlying U).run F.P w= .ok (.interface ms) w)(hx:dH O.g x=some (.v (Wr.err T) o)):
  JO F ⟨d,.binOp .eql U x (.const .nilIface) U',ty,p,af,gd⟩ O (.v Wr.bool o.isNone) []:=by
 intro ρ S a w K;have h:=AZ K (x:=x) (by simp[Op.operands]) hx;refine XC.value (w':=w) (v:= .bool o.isNone) (Yj (r:=o.isNone) ?_ h rfl ?_ ?_ ?_ ?_ ?_ ?_) (ZC.same (nR _ ρ S w))
 ·cases o<;>simp
 ·cases o<;>simp
 ·cases o<;>simp
 ·cases o<;>simp
 ·cases o<;>simp
 ·cases o<;>simp[eqGuard,Act.eval]
 ·cases o with
  |none=>exact(Di (T:=T) ha .nilIface).2.2
  |some n=>exact(Di ha _).1
theorem HE{T U U':aAb}{o:Option Int}{ms:Array (String×aAb)}(ha:∀w,(underlying U).run F.P w= .ok (.interface ms) w)(hx:dH O.g x=some (.v (Wr.err T) o)):
  JO F ⟨d,.binOp .neq U x (.const .nilIface) U',ty,p,af,gd⟩ O (.v Wr.bool o.isSome) []:=by
 intro ρ S a w K;have h:=AZ K (x:=x) (by simp[Op.operands]) hx;refine XC.value (w':=w) (v:= .bool o.isSome) (Yj (r:=o.isNone) ?_ h rfl ?_ ?_ ?_ ?_ ?_ ?_) (ZC.same (nR _ ρ S w))
 ·cases o<;>simp
 ·cases o<;>simp
 ·cases o<;>simp
 ·cases o<;>simp
 ·cases o<;>simp
 ·cases o<;>simp[eqGuard,Act.eval]
 ·cases o with
  |none=>exact(Di (T:=T) ha .nilIface).2.2
  |some n=>exact(Di ha _).1
theorem DM{T U U':aAb}{o:Option Int}{n:Int}{ms:Array (String×aAb)}{ti:TypeInfo}(ha:∀w,(underlying U).run F.P w= .ok (.interface ms) w)(hT:∀w,(underlying T).run F.P w= .ok (.int .i64) w)
  (hi:∀w,(typeInfo T).run F.P w= .ok ti w) (rh:ti.comparable=true)
  (hx:dH O.g x=some (.v (Wr.err T) o)) (hy:dH O.g y=some (.v (Wr.err T) (some n))):
  JO F ⟨d,.binOp .eql U x y U',ty,p,af,gd⟩ O (.v Wr.bool (o==some n)) []:=by
 intro ρ S a w K;have h:=AZ K (x:=x) (by simp[Op.operands]) hx;have u:=AZ K (x:=y) (by simp[Op.operands]) hy;refine XC.value (w':=w) (v:= .bool (o==some n)) (Yj (r:=(o==some n)) ?_ h u ?_ ?_ ?_ ?_ ?_ ?_) (ZC.same (nR _ ρ S w))
 ·simp
 ·cases o<;>simp
 ·cases o<;>simp
 ·cases o<;>simp
 ·cases o<;>simp
 ·cases o<;>simp[eqGuard]
 ·cases o with
  |none=>exact(Di ha _).2.1
  |some m=>rw[HD ha hT hi rh];rfl
end
end Go.Sw
namespace Go.Sw
open Go Go.RowKit
theorem XK.cell{w:aAa}{b off:Nat}{cs:List aAd}(h:XK w b off cs):∀j v,cs[j]? =some v->w.cell? ((⟨b,off,none⟩:aAk).add j)=some v:=by
 obtain⟨c,T,D,B,C⟩:=h;intro j v A;have u:j<cs.length:=by
  rcases R8 j cs.length with h | h
  ·exact h
  ·simp[dc h] at A
 have z:cs[j]=v:=by simpa[J0 u] using A
 have:=C j u;unfold Addr.add;split
 ·rename_i e;subst e;simp[World.cell?,B];simpa[z] using this
 ·simp[World.cell?,B,this,z]
theorem XK.sub{w:aAa}{b off:Nat}{a c d:List aAd}(h:XK w b off (a++(c++d))):XK w b (off+a.length) c:=by
 obtain⟨r,T,z,A,B⟩:=h;refine⟨r,T,z,A,fun j u=>?_⟩;have:=B (a.length+j) (by simp;omega);rw[aDu,this];simp[aC8 u]
theorem XK.of_heap{w:aAa}{b:Nat}{cs:List aAd}{T fr}(h:w.heap[b]? =some (.cells cs.toArray T fr)):XK w b 0 cs:=
 ⟨_,T,fr,h,fun j u=>by simp[J0 u]⟩
theorem XK.lt{w:aAa}{b off:Nat}{cs:List aAd}(h:XK w b off cs):b<w.heap.size:=by
 obtain⟨r,T,z,u,A⟩:=h;rcases R8 b w.heap.size with h | h
 ·exact h
 ·simp[aBv h] at u
theorem Gl{α:Type}{P:aAe}{e:Wr α}{x:α}{S:Nat->Prop}{w w0:aAa}{b off:Nat}{cs:List aAd}{U:aAb}(h:XK w b off cs)(ho:e.ok x S w0 cs)
  (hA:∀w,(isAgg U).run P w= .ok e.agg w) (hS:∀w,(sizeOf U).run P w= .ok e.n w):(loadVar U ⟨b,off,none⟩).run P w= .ok (e.pk cs) w:=by
 unfold loadVar;simp only[Sem.run_bind,hA,Result.andThen_ok];have u:=e.len ho;cases ha:e.agg with
 |true=>
  simp only[r7,Sem.run_bind,hS,Result.andThen_ok,Wr.pk,ha];rw[<-u,run_loadCells_list w _ cs h.cell];simp
 |false=>
  have z:=e.one ha;rw[z] at u;obtain⟨v,rfl⟩:=aCf.1 u;have:=h.cell 0 v rfl;simp[Addr.add] at this;simp[Wr.pk,ha,this]
def Slot.sz:Slot->Nat
 | .v e _=>e.n
 |_=>1
def Slot.ag:Slot->Bool
 | .v e _=>e.agg
 |_=>false
section
variable {ρ:Nat->LV}{S:Nat->Prop}{w:aAa}
theorem nS{s:Slot}{c:List aAd}(h:s.j9 ρ S w c):c.length=s.sz:=by
 cases s<;>simp only[Slot.j9] at h<;>simp only[Slot.sz]
 case v e x=>exact e.len h
 case ref=>rw[h.2];rfl
 case ptr=>rw[h.2];rfl
 case jc=>rw[h.2];rfl
 case el=>rw[h.2];rfl
 case D4=>rw[h.2];rfl
 case pv=>rw[h.2];rfl
 case sub=>obtain⟨_,u,z,_,_,h⟩:=h;rw[h];rfl
 case ZH=>obtain⟨b,A,B,h,_⟩:=h;rw[h];rfl
 case o7=>obtain⟨vs,h,_⟩:=h;rw[h];rfl
 case top=>rw[h];rfl
theorem BA{s:Slot}{c:List aAd}(h:s.j9 ρ S w c):s.ok ρ S w (if s.ag then .agg c.toArray else c.headD undef):=by
 cases s<;>simp only[Slot.j9] at h<;>simp only[Slot.ok,Slot.ag]
 case v e x=>exact⟨c,h,rfl⟩
 case ref=>rw[h.2];exact⟨h.1,rfl⟩
 case ptr=>rw[h.2];exact⟨h.1,rfl⟩
 case jc=>rw[h.2];exact⟨h.1,rfl⟩
 case el=>rw[h.2];exact⟨h.1,rfl⟩
 case D4=>rw[h.2];exact⟨h.1,rfl⟩
 case pv=>rw[h.2];exact⟨h.1,rfl⟩
 case sub=>obtain⟨z,A,B,C,D,E⟩:=h;rw[E];exact⟨z,A,B,C,D,rfl⟩
 case ZH=>obtain⟨b,F,G,h,u⟩:=h;rw[h];exact⟨b,F,G,rfl,u⟩
 case o7=>obtain⟨vs,h,u⟩:=h;rw[h];exact⟨vs,rfl,u⟩
 case top=>rw[h];rfl
def Slot.plain:Slot->Bool
 | .agg _=>false
 | .XU _=>false
 | .top=>false
 |_=>true
theorem rA{s:Slot}{v:aAd}(hp:s.plain=true)(h:s.ok ρ S w v):s.j9 ρ S w v.cells.toList:=by
 cases s<;>simp only[Slot.plain,V6] at hp<;>simp only[Slot.ok] at h<;>simp only[Slot.j9]
 case v e x=>
  obtain⟨H,z,rfl⟩:=h;unfold Wr.pk;cases ha:e.agg with
  |true=>simpa[Value.cells] using z
  |false=>
   have B:=e.len z;rw[e.one ha] at B;obtain⟨u,rfl⟩:=aCf.1 B;have:=Se (e.cell z u (by simp));simp[this,z]
 case ref i=>
  obtain⟨⟨a,l,c,z⟩|⟨a,z⟩,rfl⟩:=h
  ·exact⟨.inl ⟨a,l,c,z⟩,by simp[z,Value.cells]⟩
  ·exact⟨.inr ⟨a,z⟩,by simp[z,Value.cells]⟩
 case ptr i A=>obtain⟨⟨b,z⟩,rfl⟩:=h;exact⟨⟨b,z⟩,by simp[z,Dg,Value.cells]⟩
 case jc i A k n=>obtain⟨⟨b,z⟩,rfl⟩:=h;exact⟨⟨b,z⟩,by simp[z,Dg,Value.cells]⟩
 case el i k n A=>obtain⟨⟨b,o,l,c,z⟩,rfl⟩:=h;exact⟨⟨b,o,l,c,z⟩,by simp[z,Ml,Value.cells]⟩
 case D4 i A lo n cap=>obtain⟨⟨b,z⟩,rfl⟩:=h;exact⟨⟨b,z⟩,by simp[z,GX,Value.cells]⟩
 case pv i A n cap=>obtain⟨⟨b,o,l,c,z⟩,rfl⟩:=h;exact⟨⟨b,o,l,c,z⟩,by simp[z,GY,Value.cells]⟩
 case sub i A n=>obtain⟨⟨a,l,c,z⟩,C,D,E,F,rfl⟩:=h;exact⟨⟨a,l,c,z⟩,C,D,E,F,by rw[z];cases a<;>simp[Up,Value.cells]⟩
 case ZH e x=>obtain⟨b,A,G,rfl,z⟩:=h;exact⟨b,A,G,rfl,z⟩
 case o7 g cap=>obtain⟨vs,rfl,z⟩:=h;exact⟨vs,rfl,z⟩
def nP:List Slot->Nat->Option Slot
 | [],_=>none
 |s::r,off=>bif Nat.beq off 0 then some s else bif Nat.ble s.sz off then nP r (off - s.sz) else none
def oC:List Slot->Nat->Slot->List Slot
 | [],_,_=>[]
 |s::r,off,h=>bif Nat.beq off 0 then h::r else s::oC r (off - s.sz) h
theorem vK:∀{l:List Slot} {off:Nat} {s:Slot} {cs:List aAd},nP l off=some s->bO ρ S w l cs->
  ∃a c d,cs=a++(c++d)/\a.length=off/\s.j9 ρ S w c/\∀s' c',s'.j9 ρ S w c'->bO ρ S w (oC l off s') (a++(c'++d))
 | [],_,_,_,h,_=>by simp[nP] at h
 |t::r,off,s,cs,h,k=>by
  simp only[bO] at k;obtain⟨c,d,rfl,z,B⟩:=k;simp only[nP] at h;cases hb:Nat.beq off 0 with
  |true=>
   rw[hb] at h;simp at h;subst h;have:=D6 hb;subst this;exact⟨[],c,d,rfl,rfl,z,fun s' c' u=>by simp only[oC,Z1];exact⟨c',d,rfl,u,B⟩⟩
  |false=>
   rw[hb] at h;simp only[pF] at h;cases hle:Nat.ble t.sz off with
   |false=>rw[hle] at h;simp at h
   |true=>
    rw[hle] at h;have I:=E7 hle;obtain⟨C,c',D,E,F,G,H⟩:=vK (l:=r) (by simpa using h) B;refine⟨c++C,c',D,by rw[E,H7],by rw[sM,nS z,F];omega,G,fun s' A u=>?_⟩;simp only[oC,hb,pF,bO];exact⟨c,C++(A++D),by rw[H7],z,H s' A u⟩
def N3{α:Type}(l:List Slot)(e:Wr α)(x:α):Prop:=∀ρ S w cs,bO ρ S w l cs↔e.ok x S w cs
theorem N3.one{α:Type}(e:Wr α)(x:α):N3 [.v e x] e x:=by
 intro ρ S w cs;simp only[bO,Slot.j9];constructor
 ·rintro⟨c,d,rfl,h,rfl⟩;simpa using h
 ·intro h;exact⟨cs,[],by simp,h,rfl⟩
theorem xT{l l':List Slot}{ρ S w}:∀{cs},bO ρ S w (l++l') cs↔∃c d,cs=c++d/\bO ρ S w l c/\bO ρ S w l' d:=by
 induction l with
 |nil=>
  intro cs;simp only[Z1,bO];constructor
  ·intro h;exact⟨[],cs,rfl,rfl,h⟩
  ·rintro⟨c,d,rfl,rfl,h⟩;simpa using h
 |cons t l D=>
  intro cs;simp only[fy,bO,D];constructor
  ·rintro⟨c,d,rfl,z,u,C,rfl,A,B⟩;exact⟨c++u,C,by simp,⟨c,u,rfl,z,A⟩,B⟩
  ·rintro⟨_,d,rfl,⟨c,u,rfl,z,A⟩,B⟩;exact⟨c,u++d,by simp,z,u,d,rfl,A,B⟩
theorem N3.pr{α β:Type}{l l':List Slot}{a:Wr α}{b:Wr β}{x:α×β}(h:N3 l a x.1)(h':N3 l' b x.2):N3 (l++l') (Wr.pr a b) x:=by
 intro ρ S w cs;rw[xT];constructor
 ·rintro⟨c,d,rfl,u,z⟩;exact⟨c,d,rfl,(h ρ S w c).1 u,(h' ρ S w d).1 z⟩
 ·rintro⟨c,d,rfl,u,z⟩;exact⟨c,d,rfl,(h ρ S w c).2 u,(h' ρ S w d).2 z⟩
theorem N3.N8{α:Type}{l:List Slot}{a:Wr α}{x:α}(h:N3 l a x):N3 l (Wr.N8 a) x:=h
end
end Go.Sw
namespace Go.Sw
open Go Go.RowKit
theorem HF{ρ:Nat->LV}{S:Nat->Prop}{w w':aAa}{v:aAd}{i:Nat}{en:XB}{s:Slot}(u:LV)(hb:Below w.heap.size w w')
  (E2:en.ZR.all (fun j=> !Nat.beq j i)=true)
  (km:∀b,qX u b->w.heap.size<=b/\b<w'.heap.size)
  (L6:∀S' ρ',(∀k,k<w.heap.size->S' k->S k)->mU ρ ρ' en.ZR->en.ok ρ' S' w' u)
  (hs:∀S' ρ',(∀k,k<w.heap.size->S' k->S k)->(ρ' i).v=u.v->(∀j,j≠i->ρ' j=ρ j)->s.ok ρ' S' w' v):ZC ρ S w s [(i,en)] v w':=by
 let ρ':Nat->LV:=fun j=>if j=i then u else ρ j
 have B:ρ' i=u:=YC rfl;have C:∀j,j≠i->ρ' j=ρ j:=fun j h=>XV h;have A:∀j z,aY [(i,en)] j=some z->j=i/\z=en:=by
  intro j z h;simp only[aY] at h;cases hb:Nat.beq i j with
  |true=>have:=D6 hb;subst this;rw[hb] at h;simp at h;exact⟨rfl,h.symm⟩
  |false=>rw[hb] at h;simp at h
 have D:∀k,k<w.heap.size->Un S ρ' [(i,en)] k->S k:=by
  rintro k M (h |⟨j,z,L,F⟩)
  ·exact h
  ·obtain⟨rfl,rfl⟩:=A j z L;rw[B] at F;have:=(km k F).1;omega
 refine⟨ρ',fun j h=>C j (fun e=>by subst e;simp[aY] at h),hb,hs _ _ D (congrArg LV.v B) C,⟨fun j z h=>?_,fun j z b h E=>?_,fun j k z G b h H _ _=>?_⟩⟩
 ·obtain⟨rfl,rfl⟩:=A j z h;rw[B];refine L6 _ _ D fun I K=>congrArg LV.v (C I fun e=>?_);subst e;have:=y8.1 E2 _ K;simp at this
 ·obtain⟨rfl,rfl⟩:=A j z h;rw[B] at E;exact km b E
 ·rw[(A j z h).1,(A k G H).1]
theorem zX{ρ:Nat->LV}{S:Nat->Prop}{w w':aAa}{v:aAd}{i:Nat}{en:XB}{s:Slot}(u:aAd)(hb:Below w.heap.size w w')
  (E2:en.ZR.all (fun j=> !Nat.beq j i)=true)
  (km:∀b,j1 u=some b->w.heap.size<=b/\b<w'.heap.size)
  (L6:∀S' ρ',(∀k,k<w.heap.size->S' k->S k)->mU ρ ρ' en.ZR->en.ok ρ' S' w' (.of u))
  (hs:∀S' ρ',(∀k,k<w.heap.size->S' k->S k)->(ρ' i).v=u->(∀j,j≠i->ρ' j=ρ j)->s.ok ρ' S' w' v):ZC ρ S w s [(i,en)] v w':=
 HF (.of u) hb E2 (fun b h=>km b (pN.1 h)) L6 hs
theorem lM(w:aAa)(o:Obj):Below w.heap.size w (w.alloc o):=(Below.refl _ _).alloc (ZY _) o
theorem Sg{S S':Nat->Prop}{w w':aAa}(hb:Below w.heap.size w w')(h:∀k,k<w.heap.size->S' k->S k):Ext S S' w w':=rQ hb h
theorem ZC.box{ρ:Nat->LV}{S:Nat->Prop}{w:aAa}{T:aAb}{l:List Slot}{cs:List aAd}(i:Nat)(hl:bO ρ S w l cs)
  (E2:(eC l).all (fun j=> !Nat.beq j i)=true):ZC ρ S w (.ptr i 0) [(i,.box T l)] (.pointer (some ⟨w.heap.size,0,none⟩)) (w.alloc (.cells cs.toArray T)):=by
 refine zX (.pointer (some ⟨w.heap.size,0,none⟩)) (lM _ _) E2 ?_ ?_ ?_
 ·intro b u;simp[j1] at u;subst u;exact⟨ZY _,by simp⟩
 ·intro z ρ' h ha;exact⟨⟨_,cs,rfl,heap_alloc_new _ _,fW l cs hl (Sg (lM _ _) h) ha⟩,fun _ h=>by cases h⟩
 ·intro z ρ' _ hi _;simp only[Slot.ok];exact⟨⟨_,hi⟩,by rw[hi];rfl⟩
section
variable {F:YP}{O:AS}{pb:Option Nat}{s:Slot}{d:Option Tmp}{ty:aAb}{p:String}{af:Array Edge}{gd:Option (Nat×Bool)}{x y c:aAc}
theorem xU(P:aAe)(w:aAa)(T:aAb)(v:aAd):(newVar T v).run P w= .ok ⟨w.heap.size,0,none⟩ (w.alloc (.cells v.cells T)):=by
 simp[newVar,newRow]
theorem cL{α:Type}{e:Wr α}{z:α}{T:aAb}{l:List Slot}(i:Nat)(hx:dH O.g x=some (.v e z))(hl:N3 l e z)(E2:(eC l).all (fun j=> !Nat.beq j i)=true):
  JO F ⟨d,.box T x,ty,p,af,gd⟩ O (.ptr i 0) [(i,.box T l)]:=by
 intro ρ S a w K;have h:=rA (s:= .v e z) rfl (K.slot x (by simp[Op.operands]) _ hx);simp only[Slot.j9] at h;refine XC.value (w':=w.alloc (.cells (a.eval x).cells.toList.toArray T)) (v:= .pointer (some ⟨w.heap.size,0,none⟩)) (by simp[execOp,Instr.box,xU]) ?_;exact ZC.box i ((hl ρ S w _).2 h) E2
theorem zY{T:aAb}{l:List Slot}(i:Nat)(hx:dH O.g x=some (.agg l))(E2:(eC l).all (fun j=> !Nat.beq j i)=true):
  JO F ⟨d,.box T x,ty,p,af,gd⟩ O (.ptr i 0) [(i,.box T l)]:=by
 intro ρ S a w K;have h:=K.slot x (by simp[Op.operands]) _ hx;simp only[Slot.ok] at h;obtain⟨u,z,A⟩:=h;refine XC.value (w':=w.alloc (.cells u.toArray T)) (v:= .pointer (some ⟨w.heap.size,0,none⟩)) (by simp[execOp,Instr.box,xU,z,Value.cells]) ?_;exact ZC.box i A E2
def Zr(cs:List aAd)(l:List Slot):Prop:=∀ρ S w,bO ρ S w l cs
theorem Zr.nil:Zr [] []:=fun _ _ _=>rfl
theorem Zr.cons{cs:List aAd}{l:List Slot}{α:Type}{e:Wr α}{z:α}{c:List aAd}(h:∀S w,e.ok z S w c)(k:Zr cs l):Zr (c++cs) (.v e z::l):=fun ρ S w=>by
 simp only[bO];exact⟨c,cs,rfl,by simp only[Slot.j9];exact h S w,k ρ S w⟩
theorem Z.int(k:aAg):∀S w,(Wr.int k).ok 0 S w [.int k 0]:=fun _ _=>⟨rfl,by cases k<;>decide⟩
theorem Z.bool:∀S w,Wr.bool.ok false S w [.bool false]:=fun _ _=>rfl
theorem Z.sl{α:Type}(e:Wr α):∀S w,(Wr.sl e).ok [] S w [.slice none 0 0]:=fun _ _=>⟨none,0,rfl,by simp,.inl rfl⟩
theorem Z.err(T:aAb):∀S w,(Wr.err T).ok none S w [.nilIface]:=fun _ _=>rfl
theorem Z.arr{α:Type}{e:Wr α}{z:α}{c:List aAd}(m:Nat)(h:∀S w,e.ok z S w c):∀S w,(Wr.arr m e).ok (List.replicate m z) S w (List.replicate m c).flatten:=by
 intro S w;refine⟨by simp,?_⟩
 induction m with
 |zero=>simp[Wr.j7]
 |succ m u=>rw[aDt,aDt,aC2];exact⟨c,_,rfl,h S w,u⟩
theorem Z.pr{α β:Type}{a:Wr α}{b:Wr β}{x:α}{y:β}{c d:List aAd}(h:∀S w,a.ok x S w c)(k:∀S w,b.ok y S w d):∀S w,(Wr.pr a b).ok (x,y) S w (c++d):=fun S w=>⟨c,d,rfl,h S w,k S w⟩
theorem aO{T:aAb}{z:aAd}{cs:List aAd}{l:List Slot}(i:Nat)(hz:∀w,(zeroValue T).run F.P w= .ok z w)(hc:z.cells=cs.toArray)(hl:Zr cs l)(E2:(eC l).all (fun j=> !Nat.beq j i)=true):
  JO F ⟨d,.alloc T,ty,p,af,gd⟩ O (.ptr i 0) [(i,.box T l)]:=by
 intro ρ S a w K;refine XC.value (w':=w.alloc (.cells cs.toArray T)) (v:= .pointer (some ⟨w.heap.size,0,none⟩)) (by simp[execOp,Instr.alloc,hz,xU,hc]) ?_;exact ZC.box i (hl ρ S w) E2
theorem zZ{xs:Array aAc}{ρ:Nat->LV}{S a w}(K:B3 O xs ρ S a w)(hm:x∈xs){i off:Nat}{T:aAb}{l:List Slot}(hx:dH O.g x=some (.ptr i off))(he:aY O.d i=some (.box T l pb)):
  ∃b cs,(ρ i).v= .pointer (some ⟨b,0,none⟩)/\a.eval x= .pointer (some ⟨b,off,none⟩)/\w.heap[b]? =some (.cells cs.toArray T (0,0))/\bO ρ S w l cs:=by
 have h:=K.slot x hm _ hx;simp only[Slot.ok] at h;obtain⟨⟨b,u⟩,z⟩:=h;have:=(K.G6 x hm _ hx i (by simp[Slot.ZR]) _ he).1;rw[u] at z;obtain⟨⟨A,cs,B,C,D⟩,_⟩:=this;have:A=b:=by rw[u] at B;simpa using B.symm
 subst this;exact⟨A,cs,u,z,C,D⟩
theorem aI{T U:aAb}{l:List Slot}{i off:Nat}(hx:dH O.g x=some (.ptr i off))(he:aY O.d i=some (.box T l pb))(ho:nP l off=some s)
  (hA:∀w,(isAgg U).run F.P w= .ok s.ag w) (hS:∀w,(sizeOf U).run F.P w= .ok s.sz w):JO F ⟨d,.load U x,ty,p,af,gd⟩ O s []:=by
 intro ρ S a w K;obtain⟨b,G,z,C,D,E⟩:=zZ K (by simp[Op.operands]) hx he;obtain⟨A,c,H,rfl,rfl,B,_⟩:=vK ho E;have h:XK w b A.length c:=by have:=(XK.of_heap D).sub;simpa using this
 have u:=nS B;refine XC.value (w':=w) (v:=if s.ag then .agg c.toArray else c.headD undef) ?_ (ZC.same (BA B));have:(loadVar U ⟨b,A.length,none⟩).run F.P w= .ok (if s.ag then .agg c.toArray else c.headD undef) w:=by
  unfold loadVar;simp only[Sem.run_bind,hA,Result.andThen_ok];cases ha:s.ag with
  |true=>
   simp only[r7,Sem.run_bind,hS,Result.andThen_ok];rw[<-u,run_loadCells_list w _ c h.cell];simp
  |false=>
   have z:c.length=1:=by
    rw[u];cases s<;>simp only[Slot.ag,Slot.sz] at ha ⊢;exact Wr.one _ ha
   obtain⟨v,rfl⟩:=aCf.1 z;have:=h.cell 0 v rfl;simp[Addr.add] at this;simp[this]
 simp[execOp,C,Instr.loadAt,Instr.sureAddr,this]
theorem aT{α:Type}{e:Wr α}{z:α}{T U:aAb}{l:List Slot}{i:Nat}(hx:dH O.g x=some (.ptr i 0))(he:aY O.d i=some (.box T l pb))(hl:N3 l e z)
  (hA:∀w,(isAgg U).run F.P w= .ok e.agg w) (hS:∀w,(sizeOf U).run F.P w= .ok e.n w):JO F ⟨d,.load U x,ty,p,af,gd⟩ O (.v e z) []:=by
 intro ρ S a w K;obtain⟨b,h,D,A,B,C⟩:=zZ K (by simp[Op.operands]) hx he;have u:=(hl ρ S w h).1 C;refine XC.value (w':=w) (v:=e.pk h) ?_ (ZC.same (by simp only[Slot.ok];exact⟨h,u,rfl⟩));have:=Gl (P:=F.P) (XK.of_heap B) u hA hS;simp[execOp,A,Instr.loadAt,Instr.sureAddr,this]
theorem iB{T U:aAb}{l:List Slot}{i n:Nat}(hx:dH O.g x=some (.ptr i 0))(he:aY O.d i=some (.box T l pb))(hn:(l.map Slot.sz).sum=n)
  (hA:∀w,(isAgg U).run F.P w= .ok true w) (hS:∀w,(sizeOf U).run F.P w= .ok n w):JO F ⟨d,.load U x,ty,p,af,gd⟩ O (.agg l) []:=by
 intro ρ S a w K;obtain⟨b,h,G,B,z,u⟩:=zZ K (by simp[Op.operands]) hx he;have A:h.length=n:=by
  rw[<-hn];clear hn hS hx he z
  induction l generalizing h with
  |nil=>simp only[bO] at u;simp[u]
  |cons t l E=>
   simp only[bO] at u;obtain⟨c,d,rfl,C,D⟩:=u;rw[sM,nS C,E d D];simp
 refine XC.value (w':=w) (v:= .agg h.toArray) ?_ (ZC.same (by simp only[Slot.ok];exact⟨h,rfl,u⟩));have:(loadVar U ⟨b,0,none⟩).run F.P w= .ok (.agg h.toArray) w:=by
  unfold loadVar;simp only[Sem.run_bind,hA,Result.andThen_ok,r7,hS];rw[<-A,run_loadCells_list w _ h (XK.of_heap z).cell];simp
 simp[execOp,B,Instr.loadAt,Instr.sureAddr,this]
theorem cG{α:Type}{e:Wr α}{z:α}{U:aAb}(hx:dH O.g x=some (.ZH e z))(hA:∀w,(isAgg U).run F.P w= .ok e.agg w)(hS:∀w,(sizeOf U).run F.P w= .ok e.n w):
  JO F ⟨d,.load U x,ty,p,af,gd⟩ O (.v e z) []:=by
 intro ρ S a w K;have h:=K.slot x (by simp[Op.operands]) _ hx;simp only[Slot.ok] at h;obtain⟨b,D,u,B,_,_,C,A⟩:=h;refine XC.value (w':=w) (v:=e.pk u) ?_ (ZC.same (by simp only[Slot.ok];exact⟨u,A,rfl⟩));have:=Gl (P:=F.P) C A hA hS;simp[execOp,B,Instr.loadAt,Instr.sureAddr,this]
theorem Dj{P:aAe}{w:aAa}{U:aAb}{fs:Array aAh}{n b off m:Nat}{fl:aAh}(hU:∀w,(underlying U).run P w= .ok (.struct fs) w)(hf:fs[n]? =some fl)(hm:∀w,(sizeOf fl.type).run P w= .ok m w)(j5:Nat.beq m 0=false):
  (Instr.fieldAt U (.pointer (some ⟨b,off,none⟩)) n).run P w= .ok (.pointer (some ⟨b,off+fl.offset,none⟩)) w:=by
 have u:m≠0:=fun e=>by subst e;simp at j5
 have:Addr.add ⟨b,off,none⟩ fl.offset=⟨b,off+fl.offset,none⟩:=by
  unfold Addr.add;split
  ·rename_i h;rw[h];rfl
  ·rfl
 simp[Instr.fieldAt,hU,hf,Instr.sureAddr,fieldPlace,hm,u,this]
theorem aB(o:Nat){U:aAb}{fs:Array aAh}{n i off m:Nat}{fl:aAh}(hx:dH O.g x=some (.ptr i off))(hU:∀w,(underlying U).run F.P w= .ok (.struct fs) w)(hf:fs[n]? =some fl)(hm:∀w,(sizeOf fl.type).run F.P w= .ok m w)(j5:Nat.beq m 0=false)(ho:Nat.beq (off+fl.offset) o=true):
  JO F ⟨d,.fieldAddr U x n,ty,p,af,gd⟩ O (.ptr i o) []:=by
 have ho:=D6 ho;subst ho;intro ρ S a w K;have h:=K.slot x (by simp[Op.operands]) _ hx;simp only[Slot.ok] at h;obtain⟨⟨b,u⟩,z⟩:=h;rw[u] at z;refine XC.value (w':=w) (v:= .pointer (some ⟨b,off+fl.offset,none⟩)) ?_ (ZC.same (by simp only[Slot.ok];exact⟨⟨b,u⟩,by rw[u];rfl⟩));have:=Dj (P:=F.P) (w:=w) (b:=b) (off:=off) hU hf hm j5;simp only[execOp,z,Dg];simp[this]
def xl{α β:Type}(e:Wr α)(z:α)(off:Nat)(e':Wr β)(z':β):Prop:=∀S w cs,e.ok z S w cs->∃a c d,cs=a++(c++d)/\a.length=off/\e'.ok z' S w c
theorem xl.here{α:Type}{e:Wr α}{z:α}:xl e z 0 e z:=fun _ _ u h=>⟨[],u,[],by simp,rfl,h⟩
theorem xl.fst{α β γ:Type}{a:Wr α}{b:Wr β}{e':Wr γ}{z:α×β}{z':γ}{off:Nat}(h:xl a z.1 off e' z'):xl (Wr.pr a b) z off e' z':=by
 rintro S w F ⟨c,d,rfl,E,G⟩;obtain⟨u,A,B,rfl,C,D⟩:=h S w c E;exact⟨u,A,B++d,by simp,C,D⟩
theorem xl.snd{α β γ:Type}{a:Wr α}{b:Wr β}{e':Wr γ}{z:α×β}{z':γ}{off:Nat}(h:xl b z.2 off e' z'):xl (Wr.pr a b) z (a.n+off) e' z':=by
 rintro S w G ⟨c,d,rfl,E,F⟩;obtain⟨u,A,B,rfl,C,D⟩:=h S w d F;exact⟨c++u,A,B,by simp,by rw[sM,a.len E,C],D⟩
theorem fC{α β:Type}{e:Wr α}{z:α}{e':Wr β}{z':β}{U:aAb}{fs:Array aAh}{n m off:Nat}{fl:aAh}(hx:dH O.g x=some (.ZH e z))(hU:∀w,(underlying U).run F.P w= .ok (.struct fs) w)(hf:fs[n]? =some fl)
  (hm:∀w,(sizeOf fl.type).run F.P w= .ok m w) (j5:Nat.beq m 0=false) (hp:xl e z off e' z') (kf:off=fl.offset):JO F ⟨d,.fieldAddr U x n,ty,p,af,gd⟩ O (.ZH e' z') []:=by
 intro ρ S a w K;have h:=K.slot x (by simp[Op.operands]) _ hx;simp only[Slot.ok] at h;obtain⟨b,o,u,A,B,C,D,E⟩:=h;obtain⟨L,G,M,rfl,H,I⟩:=hp S w u E
 refine XC.value (w':=w) (v:= .pointer (some ⟨b,o+fl.offset,none⟩)) ?_ (ZC.same (by
  simp only[Slot.ok];exact⟨b,_,G,rfl,B,C,by rw[<-kf,<-H];exact D.sub,I⟩))
 have:=Dj (P:=F.P) (w:=w) (b:=b) (off:=o) hU hf hm j5;simp only[execOp,A];simp[this]
def idx{α:Type}(xs:List α)(n:Int):Option α:=if 0<=n then xs[n.toNat]? else none
theorem dL{α:Type}{xs:List α}{n:Int}{y:α}(h:idx xs n=some y):0<=n/\n.toNat<xs.length/\xs[n.toNat]? =some y:=by
 unfold idx at h;split at h
 ·rename_i z;refine⟨z,?_,h⟩;rcases R8 n.toNat xs.length with u | u
  ·exact u
  ·simp[dc u] at h
 ·cases h
theorem Dk{P:aAe}{w:aAa}{U E:aAb}{m b off len cap:Nat}{k:aAg}{n:Int}(hU:∀w,(underlying U).run P w= .ok (.slice E) w)(hE:∀w,(sizeOf E).run P w= .ok m w)(h0:0<=n)(h1:n<len):
  (Instr.indexAt U (.slice (some ⟨b,off,none⟩) len cap) (.int k n)).run P w= .ok (.pointer (some ⟨b,off+n.toNat*m,none⟩)) w:=by
 have:Addr.add ⟨b,off,none⟩ (n.toNat*m)=⟨b,off+n.toNat*m,none⟩:=by
  unfold Addr.add;split
  ·rename_i h;rw[h];rfl
  ·rfl
 simp[Instr.indexAt,asIntOf,hU,h0,h1,hE,this]
theorem pO{α:Type}{e:Wr α}{xs:List α}{z:α}{U E:aAb}{k:aAg}{n:Int}(hz:Sw.idx xs n=some z)(hx:dH O.g x=some (.v (Wr.sl e) xs))(hy:dH O.g y=some (.v (Wr.int k) n))
  (hU:∀w,(underlying U).run F.P w= .ok (.slice E) w) (hE:∀w,(sizeOf E).run F.P w= .ok e.n w):JO F ⟨d,.indexAddr U x y,ty,p,af,gd⟩ O (.ZH e z) []:=by
 intro ρ S a w K;have h:=K.slot x (by simp[Op.operands]) _ hx;have A:=(fY K (x:=y) (by simp[Op.operands]) hy).1;simp only[Slot.ok] at h;obtain⟨R,cap,B,_,u⟩:=sP.1 h;obtain⟨C,D,G⟩:=dL hz;rcases u with u |⟨b,off,X,rfl,L,M,N,Q⟩
 ·subst u;simp at D
 obtain⟨T,c,V,rfl,H,I,_⟩:=qY Q G;refine XC.value (w':=w) (v:= .pointer (some ⟨b,off+n.toNat*e.n,none⟩)) ?_ (ZC.same (by simp only[Slot.ok];exact⟨b,_,c,rfl,L,M,by rw[<-H];exact N.sub,I⟩));have:=Dk (P:=F.P) (w:=w) (b:=b) (off:=off) (cap:=cap) (k:=k) hU hE C (by omega:n<(xs.length:Int));simp only[execOp,B,A];simp[this]
theorem Dl{n:Nat}(h:n<=9223372036854775807):Dh .i64 (n:Int):=by unfold Dh;simp only[IntKind.min,IntKind.max,IntKind.signed,IntKind.bits];simp;omega
theorem Hn{P:aAe}{w:aAa}{U E:aAb}{a:Option aAk}{n cap:Nat}{tt:aAb}(hU:∀w,(underlying U).run P w= .ok (.slice E) w):(Builtin.len_ #[U] tt #[.slice a n cap]).run P w= .ok (.int .i64 n) w:=by
 simp[Builtin.len_,hU,goInt]
theorem tQ{α:Type}{e:Wr α}{xs:List α}{U E:aAb}(hx:dH O.g x=some (.v (Wr.sl e) xs))(hU:∀w,(underlying U).run F.P w= .ok (.slice E) w):
  JO F ⟨d,.call ⟨.builtin .len,#[x],#[U]⟩,ty,p,af,gd⟩ O (.v (Wr.int .i64) xs.length) []:=by
 intro ρ S a w K;have h:=K.slot x (by simp[Op.operands,Call.operands]) _ hx;simp only[Slot.ok] at h;obtain⟨A,B,u,z,_⟩:=sP.1 h;refine XC.value (w':=w) (v:= .int .i64 xs.length) ?_ (ZC.same (tP (Dl (by have:=z.2;omega)) ρ S w));simp[execOp,resolve,invoke,builtin,u,Hn hU]
theorem yW{xs:Array aAc}{ρ:Nat->LV}{S a w}(K:B3 O xs ρ S a w)(hm:x∈xs){i:Nat}{en:XB}(hx:dH O.g x=some (.ref i))(he:aY O.d i=some en):
  a.eval x=(ρ i).v/\en.ok ρ S w (ρ i)/\∀b,qX (ρ i) b->S b/\b<w.heap.size:=by
 have h:=K.slot x hm _ hx;simp only[Slot.ok] at h;exact⟨h.2,K.G6 x hm _ hx i (by simp[Slot.ZR]) _ he⟩
theorem Sh{α:Type}{e:Wr α}{xs:List α}{T U E:aAb}{i:Nat}(hx:dH O.g x=some (.ref i))(he:aY O.d i=some (.arr T e xs))(hU:∀w,(underlying U).run F.P w= .ok (.slice E) w):
  JO F ⟨d,.call ⟨.builtin .len,#[x],#[U]⟩,ty,p,af,gd⟩ O (.v (Wr.int .i64) xs.length) []:=by
 intro ρ S a w K;obtain⟨u,h,_⟩:=yW K (x:=x) (by simp[Op.operands,Call.operands]) hx he;rcases h with⟨rfl,h⟩|⟨b,z,A,B,C,h,_,_,_,_,D⟩
 ·refine XC.value (w':=w) (v:= .int .i64 0) ?_ (ZC.same (tP (Dl (n:=0) (by simp)) ρ S w));simp[execOp,resolve,invoke,builtin,u,h,Hn hU]
 ·refine XC.value (w':=w) (v:= .int .i64 xs.length) ?_ (ZC.same (tP (Dl (by omega)) ρ S w));simp[execOp,resolve,invoke,builtin,u,h,Hn hU]
end
end Go.Sw
namespace Go.Sw
open Go Go.RowKit
mutual
def Slot.map(r:Nat->Nat):Slot->Slot
 | .v e x=> .v e x
 | .ref i=> .ref (r i)
 | .ptr i off=> .ptr (r i) off
 | .jc i off k n=> .jc (r i) off k n
 | .el i k n off=> .el (r i) k n off
 | .D4 i off h n cap=> .D4 (r i) off h n cap
 | .pv i off n cap=> .pv (r i) off n cap
 | .sub i off n=> .sub (r i) off n
 | .ZH e x=> .ZH e x
 | .o7 g cap=> .o7 g (fN r cap)
 | .top=> .top
 | .agg l=> .agg (fN r l)
 | .XU l=> .XU (fN r l)
def fN(r:Nat->Nat):List Slot->List Slot
 | []=>[]
 |s::l=>s.map r::fN r l
end
def XB.map(r:Nat->Nat):XB->XB
 | .box T l h=> .box T (fN r l) h
 | .arr T e xs=> .arr T e xs
 | .mp e f m=> .mp e f m
 | .dp D x u=> .dp D x (u.map r)
section
variable {ρ:Nat->LV}{S:Nat->Prop}{w:aAa}{r:Nat->Nat}
mutual
theorem BB:∀(s:Slot) (cs:List aAd),(s.map r).j9 ρ S w cs↔s.j9 (fun i=>ρ (r i)) S w cs
 | .v e x,cs=>by simp only[Slot.map,Slot.j9]
 | .ref i,cs=>by simp only[Slot.map,Slot.j9]
 | .ptr i off,cs=>by simp only[Slot.map,Slot.j9]
 | .jc i off k n,cs=>by simp only[Slot.map,Slot.j9]
 | .el i k n off,cs=>by simp only[Slot.map,Slot.j9]
 | .D4 i off h n cap,cs=>by simp only[Slot.map,Slot.j9]
 | .pv i off n cap,cs=>by simp only[Slot.map,Slot.j9]
 | .sub i off n,cs=>by simp only[Slot.map,Slot.j9]
 | .ZH e x,cs=>by simp only[Slot.map,Slot.j9]
 | .o7 g cap,cs=>by simp only[Slot.map,Slot.j9,Lt cap]
 | .top,cs=>by simp only[Slot.map,Slot.j9]
 | .agg l,cs=>by simp only[Slot.map,Slot.j9]
 | .XU l,cs=>by simp only[Slot.map,Slot.j9]
theorem Lt:∀(l:List Slot) (vs:List aAd),aX ρ S w (fN r l) vs↔aX (fun i=>ρ (r i)) S w l vs
 | [],vs=>by simp only[fN,aX]
 |s::l,vs=>by simp only[fN,aX,Ms s,Lt l]
theorem Si:∀(l:List Slot) (vs:List aAd),bO ρ S w (fN r l) vs↔bO (fun i=>ρ (r i)) S w l vs
 | [],vs=>by simp only[fN,bO]
 |s::l,vs=>by simp only[fN,bO,BB s,Si l]
theorem Ms:∀(s:Slot) (u:aAd),(s.map r).ok ρ S w u↔s.ok (fun i=>ρ (r i)) S w u
 | .v e x,h=>by simp only[Slot.map,Slot.ok]
 | .ref i,h=>by simp only[Slot.map,Slot.ok]
 | .ptr i off,h=>by simp only[Slot.map,Slot.ok]
 | .jc i off k n,h=>by simp only[Slot.map,Slot.ok]
 | .el i k n off,h=>by simp only[Slot.map,Slot.ok]
 | .D4 i off z n cap,h=>by simp only[Slot.map,Slot.ok]
 | .pv i off n cap,h=>by simp only[Slot.map,Slot.ok]
 | .sub i off n,h=>by simp only[Slot.map,Slot.ok]
 | .ZH e x,h=>by simp only[Slot.map,Slot.ok]
 | .o7 g cap,h=>by simp only[Slot.map,Slot.ok,Lt cap]
 | .top,h=>by simp only[Slot.map,Slot.ok]
 | .agg l,h=>by simp only[Slot.map,Slot.ok,Si l]
 | .XU l,h=>by simp only[Slot.map,Slot.ok,Lt l]
end
theorem Ho(en:XB)(u:LV):(en.map r).ok ρ S w u↔en.ok (fun i=>ρ (r i)) S w u:=by
 cases en with
 |box T l h=>simp only[XB.map,XB.ok,Si]
 |arr T e xs=>simp only[XB.map,XB.ok]
 |mp e f m=>simp only[XB.map,XB.ok]
 |dp D x z=>simp only[XB.map,XB.ok,aEx,Function.comp_def]
end
def Mt(r:Nat->Nat):List (Nat×XB)->List (Nat×XB)
 | []=>[]
 | (i,h)::l=>(r i,h.map r)::Mt r l
theorem xQ(k:Nat):∀(l:List (Nat×XB)) (j:Nat) (en:XB),aY (Mt (·+k) l) j=some en->∃i en',j=i+k/\aY l i=some en'/\en=en'.map (·+k)
 | [],j,en,h=>by simp[Mt,aY] at h
 | (i,en')::l,j,en,h=>by
  simp only[Mt,aY] at h;cases hb:Nat.beq (i+k) j with
  |true=>
   have:=D6 hb;rw[hb] at h;simp at h;exact⟨i,en',this.symm,by simp[aY],h.symm⟩
  |false=>
   rw[hb] at h;obtain⟨u,A,z,B,C⟩:=xQ k l j en (by simpa using h);refine⟨u,A,z,?_,C⟩;have:Nat.beq i u=false:=by
    cases hc:Nat.beq i u with
    |false=>rfl
    |true=>have:=D6 hc;subst this;subst z;simp at hb
   simp only[aY,this];exact B
theorem xV(k:Nat):∀(l:List (Nat×XB)) (i:Nat) (en:XB),aY l i=some en->aY (Mt (·+k) l) (i+k)=some (en.map (·+k))
 | [],i,en,h=>by simp[aY] at h
 | (u,en')::l,i,en,h=>by
  simp only[aY] at h;simp only[Mt,aY];cases hb:Nat.beq u i with
  |true=>
   have:=D6 hb;subst this;rw[hb] at h;simp at h;subst h;simp
  |false=>
   rw[hb] at h;have z:u≠i:=fun e=>by subst e;simp at hb
   have:Nat.beq (u+k) (i+k)=false:=by
    cases hc:Nat.beq (u+k) (i+k) with
    |false=>rfl
    |true=>have:=D6 hc;omega
   rw[this];exact xV k l i en (by simpa using h)
theorem ZC.shift{ρ:Nat->LV}{S:Nat->Prop}{w w':aAa}{res:Slot}{new:List (Nat×XB)}{v:aAd}(k:Nat)(ZW:lG res new=true)(h:ZC ρ S w res new v w'):
  ZC ρ S w (res.map (·+k)) (Mt (·+k) new) v w':=by
 obtain⟨ρ',V,O,P,H⟩:=h;simp only[lG,K0,y8] at ZW;let E:Nat->LV:=fun j=>if k<=j/\(aY new (j - k)).isSome=true then ρ' (j - k) else ρ j
 have C:∀i,(aY new i).isSome=true->E (i+k)=ρ' i:=fun i u=>by simp[E,u]
 have L:∀b,Un S E (Mt (·+k) new) b↔Un S ρ' new b:=by
  intro b;constructor
  ·rintro (h |⟨j,A,B,z⟩)
   ·exact .inl h
   ·obtain⟨i,D,rfl,u,_⟩:=xQ k new j A B;rw[C i (by rw[u];rfl)] at z;exact .inr ⟨i,D,u,z⟩
  ·rintro (h |⟨i,A,u,z⟩)
   ·exact .inl h
   ·exact .inr ⟨i+k,_,xV k new i A u,by rw[C i (by rw[u];rfl)];exact z⟩
 have I:Ext (Un S ρ' new) (Un S E (Mt (·+k) new)) w' w':=⟨ZY _,fun b _ z=>⟨rfl,fun h=>z ((L b).1 h)⟩⟩;refine⟨E,fun j B=>?_,O,?_,⟨fun j A B=>?_,fun j A b B z=>?_,fun j M A D b B N z K=>?_⟩⟩
 ·have:¬(k<=j/\(aY new (j - k)).isSome=true):=by
   rintro⟨T,U⟩;obtain⟨A,Q⟩:=Option.isSome_iff_exists.1 U;have:=xV k new (j - k) A Q;rw[Nat.sub_add_cancel T,B] at this;cases this
  simp only[E,XV this]
 ·rw[Ms];exact Slot.WY res v P I (fun i u=>congrArg LV.v (C i (ZW.1 i u)))
 ·obtain⟨i,D,rfl,u,rfl⟩:=xQ k new j A B;rw[Ho,C i (by rw[u];rfl)];exact XB.WY (H.own i D u) I (fun F G=>congrArg LV.v (C F (ZW.2 _ (mW u) F G))) (fun _ _=>rfl)
 ·obtain⟨i,D,rfl,u,rfl⟩:=xQ k new j A B;rw[C i (by rw[u];rfl)] at z;exact H.fresh i D b u z
 ·obtain⟨i,e,rfl,u,rfl⟩:=xQ k new j A B;obtain⟨F,R,rfl,G,rfl⟩:=xQ k new M D N;rw[C i (by rw[u];rfl)] at z;rw[C F (by rw[G];rfl)] at K;rw[H.inj i F e R b u G z K]
def Frz{α β:Type}(D:DE α)(x:α)(e:Wr β)(z:β):Prop:=∀S S' w u,D.ok x S w u []->Ext S S' w w->(∀b,qX u b->¬S' b)->e.ok z S' w [u.v]/\e.pk [u.v]=u.v
def TB(en en':XB):Prop:=en'.ZR=[]/\∀ρ S w u,en.ok ρ S w u->en'.ok ρ S w u
mutual
inductive eh (O:AS) (r:Nat->Nat) (ls:List Nat):Slot->Slot->Prop
 |same {s:Slot}:eh O r ls (s.map r) s
 | N1 {α:Type} {j:Nat} {T:aAb} {e:Wr α} {xs:List α}:aY O.d j=some (.arr T e xs)->ls.all (fun i=> !Nat.beq (r i) j)=true->eh O r ls (.ref j) (.v (Wr.sl e) xs)
 |agg {l l':List Slot}:aq O r ls l l'->eh O r ls (.agg l) (.agg l')
 |pack {α:Type} {l l':List Slot} {e:Wr α} {z:α}:aq O r ls l l'->N3 l' e z->e.agg=true->eh O r ls (.agg l) (.v e z)
 | C5 {α:Type} {j:Nat} {T:aAb} {l l':List Slot} {pb:Option Nat} {e:Wr α} {z:α}:aY O.d j=some (.box T l pb)->ls.all (fun i=> !Nat.beq (r i) j)=true->aq O r ls l l'->N3 l' e z->eh O r ls (.ptr j 0) (.ZH e z)
 |o7 {g:Nat} {l l':List Slot}:aq O r ls l l'->eh O r ls (.o7 g l) (.o7 g l')
 |aLb {α β:Type} {j:Nat} {D:DE α} {x:α} {e:Wr β} {z:β}:aY O.d j=some (.dp D x [])->ls.all (fun i=> !Nat.beq (r i) j)=true->Frz D x e z->eh O r ls (.ref j) (.v e z)
 |enc {α β:Type} {e:Wr α} {f:Wr β} {x:α} {y:β}:(∀S w cs,e.ok x S w cs->f.ok y S w cs)->(∀cs,e.pk cs=f.pk cs)->eh O r ls (.v e x) (.v f y)
inductive aq (O:AS) (r:Nat->Nat) (ls:List Nat):List Slot->List Slot->Prop
 |nil:aq O r ls [] []
 |cons {s s':Slot} {l l':List Slot}:eh O r ls s s'->aq O r ls l l'->aq O r ls (s::l) (s'::l')
end
inductive dj (O:AS) (r:Nat->Nat) (ls:List Nat):List (Nat×Slot)->Prop
 |nil:dj O r ls []
 |cons {t:Nat} {s s':Slot} {g:List (Nat×Slot)}:lk O.g t=some s->eh O r ls s s'->dj O r ls g->dj O r ls ((t,s')::g)
inductive K1 (O:AS) (r:Nat->Nat) (ls:List Nat):List (Nat×XB)->Prop
 |nil:K1 O r ls []
 |box {i:Nat} {T:aAb} {l l':List Slot} {pb:Option Nat} {d:List (Nat×XB)}:aY O.d (r i)=some (.box T l pb)->aq O r ls l l'->K1 O r ls d->K1 O r ls ((i,.box T l' pb)::d)
 |aTt {i:Nat} {T:aAb} {l l':List Slot} {pb:Option Nat} {d:List (Nat×XB)}:aY O.d (r i)=some (.box T l pb)->aq O r ls l l'->K1 O r ls d->K1 O r ls ((i,.box T l' none)::d)
 |arr {α:Type} {i:Nat} {T:aAb} {e:Wr α} {xs:List α} {d:List (Nat×XB)}:aY O.d (r i)=some (.arr T e xs)->K1 O r ls d->K1 O r ls ((i,.arr T e xs)::d)
 |mp {α β:Type} {i:Nat} {e:Wr α} {f:Wr β} {m:List (α×β)} {d:List (Nat×XB)}:aY O.d (r i)=some (.mp e f m)->K1 O r ls d->K1 O r ls ((i,.mp e f m)::d)
 |dp {α:Type} {i:Nat} {D:DE α} {x:α} {l:List Nat} {d:List (Nat×XB)}:aY O.d (r i)=some (.dp D x (l.map r))->K1 O r ls d->K1 O r ls ((i,.dp D x l)::d)
 |cv {i:Nat} {en en':XB} {d:List (Nat×XB)}:aY O.d (r i)=some en->TB en en'->K1 O r ls d->K1 O r ls ((i,en')::d)
def Sj(r:Nat->Nat):List Nat->Bool
 | []=>true
 |i::l=>l.all (fun j=> !Nat.beq (r j) (r i)) && Sj r l
theorem Qo{r:Nat->Nat}:∀{l:List Nat},Sj r l=true->∀i∈l,∀j∈l,r i=r j->i=j
 | [],_,i,A,_,_,_=>by simp at A
 |x::l,h,i,A,j,E,B=>by
  simp only[Sj,K0,y8] at h;obtain⟨C,F⟩:=h;rcases B1.1 A with e | D
  ·rcases B1.1 E with u | z
   ·rw[e,u]
   ·have:=C j z;rw[<-e,B] at this;simp at this
  ·rcases B1.1 E with u | z
   ·have:=C i D;rw[<-u,B] at this;simp at this
   ·exact Qo F i D j z B
section
variable {F:YP}{O:AS}{pb:Option Nat}{r:Nat->Nat}{ls:List Nat}{ρ:Nat->LV}{w:aAa}{d':List (Nat×XB)}
theorem Sk{α:Type}{e:Wr α}{xs:List α}{T:aAb}{ρ S S' w u}(h:(XB.arr T e xs).ok ρ S w u)(hE:Ext S S' w w)(hb:∀b,qX u b->¬S' b):(Wr.sl e).ok xs S' w [u.v]:=by
 rcases h with⟨rfl,z⟩|⟨b,B,F,C,G,z,A,D,E,H,I⟩<;>rw[z]
 ·exact⟨none,0,rfl,by simp,.inl rfl⟩
 ·refine⟨_,B,rfl,⟨E,by omega⟩,.inr ⟨b,_,C,rfl,?_,hb b (.inl (by rw[z];rfl)),?_,Wr.XF D hE⟩⟩
  ·exact(XK.of_heap A).lt
  ·have:=(XK.of_heap A).sub;simpa using this
mutual
theorem eh.spec(hc:Core F O.d ρ w)(hE:Ext (Un F.S0 ρ O.d) (Un F.S0 (fun i=>ρ (r i)) d') w w)(hn:∀j en,aY O.d j=some en->ls.all (fun i=> !Nat.beq (r i) j)=true->∀b,qX (ρ j) b->¬Un F.S0 (fun i=>ρ (r i)) d' b):
  ∀{s s':Slot},eh O r ls s s'->(∀u,s.ok ρ (Un F.S0 ρ O.d) w u->s'.ok (fun i=>ρ (r i)) (Un F.S0 (fun i=>ρ (r i)) d') w u)/\
   (∀cs,s.j9 ρ (Un F.S0 ρ O.d) w cs->s'.j9 (fun i=>ρ (r i)) (Un F.S0 (fun i=>ρ (r i)) d') w cs)
 |_,s',.same=>⟨fun u h=>Slot.WY s' u ((Ms s' u).1 h) hE (fun _ _=>rfl),fun cs h=>vV s' cs ((BB s' cs).1 h) hE (fun _ _=>rfl)⟩
 |_,_,.N1 (j:=j) z A=>by
  have C:=Sk (hc.own j _ z) hE (hn j _ z A);refine⟨fun u h=>?_,fun cs h=>?_⟩
  ·simp only[Slot.ok] at h ⊢;rw[h.2];exact⟨_,C,rfl⟩
  ·simp only[Slot.j9] at h ⊢;rw[h.2];exact C
 |_,_,.agg B=>by
  refine⟨fun u h=>?_,fun cs h=>by simp[Slot.j9] at h⟩;simp only[Slot.ok] at h ⊢;obtain⟨cs,z,A⟩:=h;exact⟨cs,z,(aq.spec hc hE hn B).1 cs A⟩
 |_,_,.pack B H P=>by
  refine⟨fun u h=>?_,fun cs h=>by simp[Slot.j9] at h⟩;simp only[Slot.ok] at h ⊢;obtain⟨cs,z,A⟩:=h;exact⟨cs,(H _ _ _ cs).1 ((aq.spec hc hE hn B).1 cs A),by rw[z];simp[Wr.pk,P]⟩
 |_,_,.C5 (j:=j) z A B H=>by
  obtain⟨⟨b,cs,D,E,N⟩,_⟩:=hc.own j _ z;have I:=hn j _ z A b (.inl (by rw[D];rfl));have K:=(H _ _ _ cs).1 ((aq.spec hc hE hn B).1 cs N);have L:b<w.heap.size:=(aBn.1 E).1;refine⟨fun u h=>?_,fun Q h=>?_⟩
  ·simp only[Slot.ok] at h ⊢;refine⟨b,0,cs,?_,L,I,XK.of_heap E,K⟩;rw[h.2,D];rfl
  ·simp only[Slot.j9] at h ⊢;refine⟨b,0,cs,?_,L,I,XK.of_heap E,K⟩;rw[h.2,D];rfl
 |_,_,.o7 B=>by
  refine⟨fun u h=>?_,fun cs h=>?_⟩
  ·simp only[Slot.ok] at h ⊢;obtain⟨vs,z,A⟩:=h;exact⟨vs,z,(aq.spec hc hE hn B).2 vs A⟩
  ·simp only[Slot.j9] at h ⊢;obtain⟨vs,z,A⟩:=h;exact⟨vs,z,(aq.spec hc hE hn B).2 vs A⟩
 |_,_,.aLb (j:=j) z A hf=>by
  obtain⟨C,G⟩:=hf _ _ _ _ (hc.own j _ z) hE (hn j _ z A);refine⟨fun u h=>?_,fun cs h=>?_⟩
  ·simp only[Slot.ok] at h ⊢;rw[h.2];exact⟨_,C,G.symm⟩
  ·simp only[Slot.j9] at h ⊢;rw[h.2];exact C
 |_,_,.enc (f:=f) h G=>by
  refine⟨fun u M=>?_,fun cs hc=>?_⟩
  ·simp only[Slot.ok] at M ⊢;obtain⟨cs,z,A⟩:=M;exact gT ⟨cs,h _ _ _ z,by rw[A,G]⟩ hE
  ·simp only[Slot.j9] at hc ⊢;exact f.mono (h _ _ _ hc) hE
theorem aq.spec(hc:Core F O.d ρ w)(hE:Ext (Un F.S0 ρ O.d) (Un F.S0 (fun i=>ρ (r i)) d') w w)(hn:∀j en,aY O.d j=some en->ls.all (fun i=> !Nat.beq (r i) j)=true->∀b,qX (ρ j) b->¬Un F.S0 (fun i=>ρ (r i)) d' b):
  ∀{l l':List Slot},aq O r ls l l'->(∀cs,bO ρ (Un F.S0 ρ O.d) w l cs->bO (fun i=>ρ (r i)) (Un F.S0 (fun i=>ρ (r i)) d') w l' cs)/\(∀vs,aX ρ (Un F.S0 ρ O.d) w l vs->aX (fun i=>ρ (r i)) (Un F.S0 (fun i=>ρ (r i)) d') w l' vs)
 |_,_,.nil=>⟨fun cs h=>h,fun vs h=>h⟩
 |_,_,.cons D E=>⟨fun cs h=>by
  simp only[bO] at h ⊢;obtain⟨c,d,z,A,B⟩:=h;exact⟨c,d,z,(eh.spec hc hE hn D).2 c A,(aq.spec hc hE hn E).1 d B⟩,fun vs h=>by
  simp only[aX] at h ⊢;obtain⟨u,C,z,A,B⟩:=h
  exact⟨u,C,z,(eh.spec hc hE hn D).1 u A,(aq.spec hc hE hn E).2 C B⟩⟩
end
theorem dj.spec{g:List (Nat×Slot)}(h:dj O r ls g):∀t s',lk g t=some s'->∃s,lk O.g t=some s/\eh O r ls s s':=by
 induction h with
 |nil=>intro t s h;simp[lk] at h
 |cons z A _ B=>
  rename_i u C D E _;intro t s h;simp only[lk] at h;cases hb:Nat.beq u t with
  |true=>have:=D6 hb;subst this;rw[hb] at h;simp at h;subst h;exact⟨_,z,A⟩
  |false=>rw[hb] at h;exact B t s h
theorem K1.spec{d:List (Nat×XB)}(h:K1 O r ls d):∀i en',aY d i=some en'->(∃T l l' pb pb',aY O.d (r i)=some (.box T l pb)/\en'= .box T l' pb'/\(∀c,pb'=some c->pb=some c)/\aq O r ls l l')\/∃en,aY O.d (r i)=some en/\∀ρ S S' w u,en.ok ρ S w u->Ext S S' w w->en'.ok (fun i=>ρ (r i)) S' w u:=by
 induction h with
 |nil=>intro t s h;simp[aY] at h
 |box A G _ B=>
  rename_i z T l l' pb F _;intro t s h;simp only[aY] at h;cases hb:Nat.beq z t with
  |true=>have:=D6 hb;subst this;rw[hb] at h;simp at h;subst h;exact .inl ⟨T,l,l',pb,pb,A,rfl,fun _ h=>h,G⟩
  |false=>rw[hb] at h;exact B t s h
 |aTt A G _ B=>
  rename_i z T l l' pb F _;intro t s h;simp only[aY] at h;cases hb:Nat.beq z t with
  |true=>have:=D6 hb;subst this;rw[hb] at h;simp at h;subst h;exact .inl ⟨T,l,l',pb,none,A,rfl,(fun _ h=>(by cases h)),G⟩
  |false=>rw[hb] at h;exact B t s h
 |arr A _ B=>
  rename_i α z T e xs F _;intro t s h;simp only[aY] at h;cases hb:Nat.beq z t with
  |true=>
   have:=D6 hb;subst this;rw[hb] at h;simp at h;subst h;exact .inr ⟨_,A,fun ρ S S' w u h C=>XB.WY h C (fun _ E=>by simp[XB.ZR] at E) (fun _ _=>rfl)⟩
  |false=>rw[hb] at h;exact B t s h
 |mp A _ B=>
  rename_i α β z e f m F _;intro t s h;simp only[aY] at h;cases hb:Nat.beq z t with
  |true=>
   have:=D6 hb;subst this;rw[hb] at h;simp at h;subst h;exact .inr ⟨_,A,fun ρ S S' w u h C=>XB.WY h C (fun _ E=>by simp[XB.ZR] at E) (fun _ _=>rfl)⟩
  |false=>rw[hb] at h;exact B t s h
 |dp A _ B=>
  rename_i α z D x l F _;intro t s h;simp only[aY] at h;cases hb:Nat.beq z t with
  |true=>
   have:=D6 hb;subst this;rw[hb] at h;simp at h;subst h;refine .inr ⟨_,A,fun ρ S S' w u h C=>?_⟩;have:=D.mono h C (fun _ _=>rfl);simp only[XB.ok,aEx,Function.comp_def] at this ⊢;exact this
  |false=>rw[hb] at h;exact B t s h
 |cv A H _ B=>
  rename_i z en en' F _;intro t s h;simp only[aY] at h;cases hb:Nat.beq z t with
  |true=>
   have:=D6 hb;subst this;rw[hb] at h;simp at h;subst h;exact .inr ⟨_,A,fun ρ S S' w u h C=>XB.WY (H.2 _ _ _ _ h) C (fun _ E=>by rw[H.1] at E;simp at E) (fun _ _=>rfl)⟩
  |false=>rw[hb] at h;exact B t s h
theorem Sub.mk{O':AS}(r:Nat->Nat)(hg:dj O r (O'.d.map (·.1)) O'.g)(hd:K1 O r (O'.d.map (·.1)) O'.d)(hi:Sj r (O'.d.map (·.1))=true):Sub F O O':=by
 rintro a w ⟨⟨ρ,z,hs⟩,hz,j4⟩;have L:=hd.spec;have E:∀i u,aY O'.d i=some u->∃j6,aY O.d (r i)=some j6:=fun i u h=>by
  rcases L i u h with⟨T,l,l',pb,_,A,_⟩|⟨_,A,_⟩
  ·exact⟨_,A⟩
  ·exact⟨_,A⟩
 have H:∀i u,aY O'.d i=some u->i∈O'.d.map (·.1):=fun i u h=>fx.2 ⟨_,mW h,rfl⟩;have R:∀b,Un F.S0 (fun i=>ρ (r i)) O'.d b->Un F.S0 ρ O.d b:=by
  rintro b (h |⟨i,u,A,D⟩)
  ·exact .inl h
  ·obtain⟨j6,C⟩:=E i u A;exact .inr ⟨r i,j6,C,D⟩
 have I:Ext (Un F.S0 ρ O.d) (Un F.S0 (fun i=>ρ (r i)) O'.d) w w:=⟨ZY _,fun b _ B=>⟨rfl,fun h=>B (R b h)⟩⟩;have M:∀j u,aY O.d j=some u->(O'.d.map (·.1)).all (fun i=> !Nat.beq (r i) j)=true->∀b,qX (ρ j) b->¬Un F.S0 (fun i=>ρ (r i)) O'.d b:=by
  intro j u K S b B U;rcases U with h |⟨i,G,A,D⟩
  ·have A:=(z.fresh j u b K B).1;exact absurd h (z.apart j u b K B)
  ·obtain⟨j6,C⟩:=E i G A;have:=z.inj j (r i) u j6 b K C B D;have N:=y8.1 S i (H i G A);rw[this] at N;simp at N
 refine⟨⟨fun i=>ρ (r i),⟨z.low,z.size,z.frame,z.os,z.tape,z.output,?_,?_,?_,?_⟩,?_⟩,hz,j4⟩
 ·intro i u h;rcases L i u h with⟨T,l,l',pb,aa,A,rfl,h0,D⟩|⟨j6,A,D⟩
  ·obtain⟨⟨b,Q,k1,k2,k3⟩,k4⟩:=z.own _ _ A;exact⟨⟨b,Q,k1,k2,(aq.spec z I M D).1 Q k3⟩,fun c V2=>k4 c (h0 c V2)⟩
  ·exact D _ _ _ _ _ (z.own _ _ A) I
 ·intro i u b h B;obtain⟨j6,C⟩:=E i u h;exact z.fresh (r i) j6 b C B
 ·intro i j u G b h P B V;obtain⟨j6,C⟩:=E i u h;obtain⟨fu,h4⟩:=E j G P;exact Qo hi i (H i u h) j (H j G P) (z.inj _ _ _ _ b C h4 B V)
 ·intro i u b h B;obtain⟨j6,C⟩:=E i u h;exact z.apart (r i) j6 b C B
 ·intro t X ht;obtain⟨s,A,D⟩:=hg.spec t X ht;exact(eh.spec z I M D).1 _ (hs t s A)
end
section
variable {F:YP}{O:AS}{pb:Option Nat}{d:Option Tmp}{ty:aAb}{p:String}{af:Array Edge}{gd:Option (Nat×Bool)}
def Arg(O:AS)(l8:Bool)(x:aAc)(s:Slot):Prop:=∀ρ S a w,B3 O #[x] ρ S a w->s.ok ρ (if l8 then fun _=>False else S) w (a.eval x)
theorem Aa(S:Nat->Prop)(w:aAa)(b:Bool):Ext S (if b then fun _=>False else S) w w:=by
 cases b
 ·exact Ext.refl _ _
 ·exact⟨ZY _,fun _ _ _=>⟨rfl,fun h=>h⟩⟩
theorem Arg.dir{l8:Bool}{x:aAc}{s:Slot}(h:dH O.g x=some s):Arg O l8 x s:=fun ρ S a w K=>
 Slot.WY s _ (K.slot x (by simp) s h) (Aa S w l8) (fun _ _=>rfl)
theorem Arg.ql{l8:Bool}{α:Type}(e:Wr α):Arg O l8 (.const (.slice none 0 0)) (.v (Wr.sl e) []):=fun ρ _ _ w _=>Uu e ρ _ w
theorem Arg.aOm{l8:Bool}(T:aAb):Arg O l8 (.const .nilIface) (.v (Wr.err T) none):=fun ρ _ _ w _=>Qn T ρ _ w
theorem Arg.ref{α:Type}{x:aAc}{i:Nat}{T:aAb}{e:Wr α}{xs:List α}(h:dH O.g x=some (.ref i))(he:aY O.d i=some (.arr T e xs)):Arg O true x (.v (Wr.sl e) xs):=by
 intro ρ S a w K;obtain⟨u,z,_⟩:=yW K (x:=x) (by simp) h he;rw[u];simp only[Slot.ok];exact⟨_,Sk z (Aa S w true) (fun _ _ h=>h),rfl⟩
inductive ld (O:AS) (l8:Bool):List Slot->List Slot->Prop
 |nil:ld O l8 [] []
 |same {s:Slot} {l l':List Slot}:ld O l8 l l'->ld O l8 (s::l) (s::l')
 |ref {α:Type} {i:Nat} {T:aAb} {e:Wr α} {xs:List α} {l l':List Slot}:l8=true->aY O.d i=some (.arr T e xs)->ld O l8 l l'->ld O l8 (.ref i::l) (.v (Wr.sl e) xs::l')
theorem ld.spec{l8:Bool}{l l':List Slot}(h:ld O l8 l l'){ρ S w}(my:∀i∈eC l,∀en,aY O.d i=some en->en.ok ρ S w (ρ i)):
  ∀cs,bO ρ S w l cs->bO ρ (if l8 then fun _=>False else S) w l' cs:=by
 induction h with
 |nil=>intro cs h;exact h
 |same _ C=>
  rename_i s l l' _;intro cs h;simp only[bO] at h ⊢;obtain⟨c,d,z,A,B⟩:=h;exact⟨c,d,z,vV s c A (Aa S w l8) (fun _ _=>rfl),C (fun i u=>my i (by simp[eC,u])) d B⟩
 |ref D E _ C=>
  rename_i α i T e xs l l' _;intro cs h;simp only[bO,Slot.j9] at h ⊢;obtain⟨c,d,z,A,B⟩:=h;refine⟨c,d,z,?_,C (fun i u=>my i (by simp[eC,u])) d B⟩;rw[A.2];subst D;exact Sk (my i (by simp[eC,Slot.ZR]) _ E) (Aa S w true) (fun _ _ h=>h)
theorem Arg.agg{l8:Bool}{α:Type}{x:aAc}{l l':List Slot}{e:Wr α}{z:α}(h:dH O.g x=some (.agg l))(hl:ld O l8 l l')(hs:N3 l' e z)(ha:e.agg=true):Arg O l8 x (.v e z):=by
 intro ρ S a w K;have A:=K.slot x (by simp) _ h;simp only[Slot.ok] at A ⊢;obtain⟨u,E,F⟩:=A;refine⟨u,(hs _ _ _ u).1 (hl.spec (fun i B C D=>(K.G6 x (by simp) _ h i (by simpa[Slot.ZR] using B) C D).1) u F),?_⟩;rw[E];simp[Wr.pk,ha]
inductive W5 (O:AS) (l8:Bool):List aAc->List Slot->Prop
 |nil:W5 O l8 [] []
 |cons {x:aAc} {s:Slot} {xs:List aAc} {l:List Slot}:Arg O l8 x s->W5 O l8 xs l->W5 O l8 (x::xs) (s::l)
theorem W5.spec{l8:Bool}{xs:List aAc}{l:List Slot}(h:W5 O l8 xs l){ρ S a w}{ys:Array aAc}(eu:∀x∈xs,x∈ys)(K:B3 O ys ρ S a w):aX ρ (if l8 then fun _=>False else S) w l (xs.map a.eval):=by
 induction h with
 |nil=>rfl
 |cons z _ A=>
  rename_i x s xs l _;simp only[L4,aX];refine⟨_,_,rfl,z ρ S a w ⟨K.low,fun y u s h=>?_,fun y u s h=>?_⟩,A fun y u=>eu y (cz _ u)⟩
  ·have:y=x:=(by simpa using u);subst this;exact K.slot y (eu y (by simp)) s h
  ·have:y=x:=(by simpa using u);subst this;exact K.G6 y (eu y (by simp)) s h
theorem uL{P:aAe}{f:aAf}{xs:List aAc}{ts:Array aAb}{a:aAm}{w:aAa}(ZE:∀args w,(callFunc f args).run P w= .ok (.enter f args) w):
  (execOp a.eval ⟨d,.call ⟨.value (.func f),xs.toArray,ts⟩,ty,p,af,gd⟩).run P w= .ok (.enter f (xs.map a.eval).toArray) w:=by
 simp[execOp,resolve,Act.eval,Deferred.ofValue,invoke,ZE]
theorem fP{f:aAf}{xs:List aAc}{ts:Array aAb}{ss:List Slot}{res:Slot}{new:List (Nat×XB)}(k:Nat)(hc:XL F.P f ss res new)(ZE:∀args w,(callFunc f args).run F.P w= .ok (.enter f args) w)
  (ha:W5 O false xs ss) (ZW:lG res new=true):
  JO F ⟨d,.call ⟨.value (.func f),xs.toArray,ts⟩,ty,p,af,gd⟩ O (res.map (·+k)) (Mt (·+k) new):=by
 intro ρ S a w K;refine XC.enter (uL ZE) ?_;have:=ha.spec (ys:=(Op.call ⟨.value (.func f),xs.toArray,ts⟩).operands) (by intro x u;simp[Op.operands,Call.operands,u]) K;refine(hc S w _ ρ K.low this).mono ?_;rintro e z ⟨v,rfl,h⟩;exact⟨v,rfl,h.shift k ZW⟩
def YZ(s:Slot):Prop:=∀ρ S S' w u,s.ok ρ S w u->s.ok ρ S' w u
def ZQ(new:List (Nat×XB)):Prop:=∀i en,aY new i=some en->∀ρ S S' w u,en.ok ρ S w u->en.ok ρ S' w u
theorem eh.of_eq{O:AS}{r:Nat->Nat}{ls:List Nat}{s s':Slot}(h:s=s'.map r):eh O r ls s s':=by subst h;exact .same
theorem YZ.v{α:Type}{e:Wr α}[ZU e]{x:α}:YZ (.v e x):=fun ρ S C w u h=>by
 simp only[Slot.ok] at h ⊢;obtain⟨z,A,B⟩:=h;exact⟨z,ZU.flat A,B⟩
theorem YZ.ref{i:Nat}:YZ (.ref i):=fun ρ S z w u h=>by simpa only[Slot.ok] using h
inductive J3:List Slot->Prop
 |nil:J3 []
 |v {α:Type} {e:Wr α} [ZU e] {x:α} {l}:J3 l->J3 (.v e x::l)
 |ref {i:Nat} {l}:J3 l->J3 (.ref i::l)
 |agg {l l':List Slot}:J3 l'->J3 l->J3 (.agg l'::l)
theorem J3.spec{l:List Slot}(h:J3 l):(∀ρ S S' w vs,aX ρ S w l vs->aX ρ S' w l vs)/\(∀ρ S S' w vs,bO ρ S w l vs->bO ρ S' w l vs):=by
 induction h with
 |nil=>exact⟨fun _ _ _ _ _ h=>h,fun _ _ _ _ _ h=>h⟩
 |v _ D=>
  refine⟨fun ρ S S' w vs h=>?_,fun ρ S S' w vs h=>?_⟩
  ·simp only[aX] at h ⊢;obtain⟨u,A,B,z,C⟩:=h;exact⟨u,A,B,YZ.v ρ S S' w u z,D.1 ρ S S' w _ C⟩
  ·simp only[bO,Slot.j9] at h ⊢;obtain⟨u,A,B,z,C⟩:=h;exact⟨u,A,B,ZU.flat z,D.2 ρ S S' w _ C⟩
 |ref _ D=>
  refine⟨fun ρ S S' w vs h=>?_,fun ρ S S' w vs h=>?_⟩
  ·simp only[aX] at h ⊢;obtain⟨u,A,B,z,C⟩:=h;exact⟨u,A,B,YZ.ref ρ S S' w u z,D.1 ρ S S' w _ C⟩
  ·simp only[bO,Slot.j9] at h ⊢;obtain⟨u,A,B,z,C⟩:=h;exact⟨u,A,B,z,D.2 ρ S S' w _ C⟩
 |agg _ _ G D=>
  refine⟨fun ρ S S' w vs h=>?_,fun ρ S S' w vs h=>?_⟩
  ·simp only[aX,Slot.ok] at h ⊢;obtain⟨u,A,B,⟨E,z,F⟩,C⟩:=h;exact⟨u,A,B,⟨E,z,G.2 ρ S S' w _ F⟩,D.1 ρ S S' w _ C⟩
  ·simp only[bO,Slot.j9] at h ⊢;obtain⟨u,A,B,z,C⟩:=h;exact z.elim
theorem YZ.agg{l:List Slot}(h:J3 l):YZ (.agg l):=fun ρ S z w u k=>by
 simp only[Slot.ok] at k ⊢;obtain⟨A,B,C⟩:=k;exact⟨A,B,h.spec.2 ρ S z w _ C⟩
theorem YZ.XU{l:List Slot}(h:J3 l):YZ (.XU l):=fun ρ S z w u k=>by
 simp only[Slot.ok] at k ⊢;obtain⟨A,B,C⟩:=k;exact⟨A,B,h.spec.1 ρ S z w _ C⟩
theorem ZQ.nil:ZQ []:=fun i u h=>by simp[aY] at h
theorem ZQ.arr{α:Type}{i:Nat}{T:aAb}{e:Wr α}[ZU e]{xs:List α}{r:List (Nat×XB)}(h:ZQ r):ZQ ((i,.arr T e xs)::r):=by
 intro j A z;simp only[aY] at z;cases hb:Nat.beq i j with
 |true=>
  rw[hb] at z;simp at z;subst z;intro ρ S S' w u h;rcases h with h |⟨b,B,C,D,E,F,G,H,I⟩
  ·exact .inl h
  ·exact .inr ⟨b,B,C,D,E,F,G,ZU.j7 H,I⟩
 |false=>rw[hb] at z;exact h j A z
theorem rB{f:aAf}{xs:List aAc}{ts:Array aAb}{ss:List Slot}{res:Slot}{new:List (Nat×XB)}(k:Nat)(hc:XL F.P f ss res new)(ZE:∀args w,(callFunc f args).run F.P w= .ok (.enter f args) w)
  (ha:W5 O true xs ss) (ZW:lG res new=true) (hf:YZ res) (hn:ZQ new):
  JO F ⟨d,.call ⟨.value (.func f),xs.toArray,ts⟩,ty,p,af,gd⟩ O (res.map (·+k)) (Mt (·+k) new):=by
 intro ρ S a w K;refine XC.enter (uL ZE) ?_;have:=ha.spec (ys:=(Op.call ⟨.value (.func f),xs.toArray,ts⟩).operands) (by intro x B;simp[Op.operands,Call.operands,B]) K;refine(hc (fun _=>False) w _ ρ (fun _ h=>h.elim) this).mono ?_;rintro e G ⟨v,rfl,h⟩;refine⟨v,rfl,ZC.shift k ZW ?_⟩;obtain⟨ρ',C,D,E,u⟩:=h;exact⟨ρ',C,D,hf _ _ _ _ _ E,⟨fun i z A=>hn i z A _ _ _ _ _ (u.own i z A),u.fresh,u.inj⟩⟩
end
end Go.Sw
namespace Go.Sw
open Go Go.RowKit
def iV(d:Option Tmp)(s:Slot)(g:List (Nat×Slot)):List (Nat×Slot):=match d with | some t=>(t,s)::g | none=>g
def rd:aAc->List Nat
 | .tmp t=>[t]
 |_=>[]
def looks(ops:Array aAi)(o:aAi):List Nat:=
 o.op.operands.toList.flatMap rd++(match o.guard with | some (g,_)=>((ops[g]?).bind (·.dst)).toList | none=>[])
def Mu(o:aAi):List Nat:=o.after.toList.filterMap fun e=>if Region.binds .any e then some e.on else none
def Dm(ops:Array aAi):Bool:=(List.range ops.size).all fun i=>match ops[i]? with | none=>false | some o=>(Mu o).all fun j=>decide (j<i)
section
variable {F:YP}{ops:Array aAi}
def HG(ops:Array aAi)(L:Nat->Bool):Prop:=∀i o,L i=true->ops[i]? =some o->∀j∈Mu o,L j=true
theorem Un.congr{S:Nat->Prop}{ρ:Nat->LV}{d d':List (Nat×XB)}(h:∀l en,aY d l=some en↔aY d' l=some en):Un S ρ d=Un S ρ d':=by
 funext k;refine propext ⟨fun u=>?_,fun u=>?_⟩
 ·rcases u with u |⟨i,en,z,A⟩
  ·exact .inl u
  ·exact .inr ⟨i,en,(h i en).1 z,A⟩
 ·rcases u with u |⟨i,en,z,A⟩
  ·exact .inl u
  ·exact .inr ⟨i,en,(h i en).2 z,A⟩
theorem Core.congr{d d':List (Nat×XB)}{ρ:Nat->LV}{w:aAa}(h:∀l en,aY d l=some en↔aY d' l=some en)(hc:Core F d ρ w):Core F d' ρ w:=
 ⟨hc.low,hc.size,hc.frame,hc.os,hc.tape,hc.output,fun i en u=>by rw[<-Un.congr h];exact hc.own i en ((h i en).2 u),fun i en b u=>hc.fresh i en b ((h i en).2 u),fun i j en z b u A=>hc.inj i j en z b ((h i en).2 u) ((h j z).2 A),
  fun i en b u=>hc.apart i en b ((h i en).2 u)⟩
theorem Core.below{d:List (Nat×XB)}{ρ:Nat->LV}{w w':aAa}(hc:Core F d ρ w)(hb:Below w.heap.size w w'):Core F d ρ w'/\Ext (Un F.S0 ρ d) (Un F.S0 ρ d) w w':=by
 have A:Ext (Un F.S0 ρ d) (Un F.S0 ρ d) w w':=rQ hb fun _ _ h=>h
 exact⟨⟨hc.low,ik hc.size hb.size,fun k B C=>(hb.block k (X0 B hc.size)).trans (hc.frame k B C),hb.os.trans hc.os,hb.tape.trans hc.tape,hb.output.trans hc.output,
  fun i u h=>XB.WY (hc.own i u h) A (fun _ _=>rfl) (fun b z=>hb.block b (hc.fresh i u b h z).2),fun i u b h z=>⟨(hc.fresh i u b h z).1,X0 (hc.fresh i u b h z).2 hb.size⟩,hc.inj,hc.apart⟩,A⟩
theorem mN{g:List (Nat×Slot)}{t u:Nat}{s:Slot}:lk ((t,s)::g) u=if t=u then some s else lk g u:=by
 simp only[lk];cases hb:Nat.beq t u with
 |true=>have:=D6 hb;subst this;simp
 |false=>
  have:t≠u:=fun e=>by subst e;simp at hb
  simp[this]
theorem DN(m i:Nat)(L:Nat->Bool)(hi:i<m)(hL:L i=false):((List.range m).filter fun q=>q==i || L q).length=((List.range m).filter fun q=>L q).length+1:=by
 induction m with
 |zero=>omega
 |succ m z=>
  rw[List.range_succ,aB4,aB4,sM,sM];by_cases h:i=m
  ·subst h;have:((List.range i).filter fun q=>q==i || L q)=(List.range i).filter fun q=>L q:=by
    refine List.filter_congr fun q u=>?_;have:=ny.1 u;have:(q==i)=false:=(by simp;omega);simp[this]
   rw[this];simp[hL]
  ·rw[z (by omega)];have:(m==i)=false:=(by simp;omega);simp[aD5,this];split<;>simp<;>omega
end
end Go.Sw
namespace Go.Sw
open Go Go.RowKit
theorem uM{P:aAe}{T:aAb}{ti:TypeInfo}(h:∀w,(typeInfo T).run P w= .ok ti w):P.info? T=some ti:=by
 have:=h default;unfold typeInfo at this;simp only[Sem.run_bind,run_program,Result.andThen_ok] at this;cases hi:P.info? T with
 |none=>rw[hi] at this;simp at this
 |some i=>rw[hi] at this;simp at this;rw[this]
theorem rC{P:aAe}{T:aAb}{de:TypeDesc}(h:∀w,(underlying T).run P w= .ok de w):P.underlying T=some de:=by
 have:=h default;unfold underlying at this;simp only[Sem.run_bind,run_program,Result.andThen_ok] at this;cases hi:P.underlying T with
 |none=>rw[hi] at this;simp at this
 |some i=>rw[hi] at this;simp at this;rw[this]
theorem Lu{P:aAe}{T:aAb}{ti:TypeInfo}{n:Nat}(h:∀w,(typeInfo T).run P w= .ok ti w)(hs:∀w,(sizeOf T).run P w= .ok n w):ti.size=n:=by
 have:=hs default;unfold sizeOf at this;simp only[Sem.run_bind,h,Result.andThen_ok,Sem.run_pure,Result.ok.injEq,aEi] at this;exact this
structure ee (b:Nat) (w w':aAa):Prop where
 size:w'.heap.size=w.heap.size
 other:∀k,k≠b->w'.heap[k]? =w.heap[k]?
 os:w'.os=w.os
 tape:w'.tape=w.tape
 output:w'.output=w.output
theorem ee.setRow(w:aAa)(b:Nat)(cs:Array aAd):ee b w (w.setRow b cs):=⟨by simp[World.setRow],fun k h=>setRow_other w b k cs h,rfl,rfl,rfl⟩
theorem cN{d:List (Nat×XB)}{t u:Nat}{s:XB}:aY ((t,s)::d) u=if t=u then some s else aY d u:=by
 simp only[aY];cases hb:Nat.beq t u with
 |true=>have:=D6 hb;subst this;simp
 |false=>
  have:t≠u:=fun e=>by subst e;simp at hb
  simp[this]
section
variable {F:YP}{O:AS}
theorem Core.upd{d:List (Nat×XB)}{ρ:Nat->LV}{w w':aAa}{i b:Nat}{en en':XB}(hc:Core F d ρ w)(hi:aY d i=some en)(hb:qX (ρ i) b)(hu:ee b w w')
  (L6:Ext (Un F.S0 ρ d) (Un F.S0 ρ d) w w'->en'.ok ρ (Un F.S0 ρ d) w' (ρ i)):Core F ((i,en')::d) ρ w'/\Ext (Un F.S0 ρ d) (Un F.S0 ρ ((i,en')::d)) w w':=by
 have I:∀k,Un F.S0 ρ ((i,en')::d) k↔Un F.S0 ρ d k:=by
  intro k;constructor
  ·rintro (h |⟨j,e,B,C⟩)
   ·exact .inl h
   ·rw[cN] at B;split at B
    ·rename_i u;subst u;exact .inr ⟨i,en,hi,C⟩
    ·exact .inr ⟨j,e,B,C⟩
  ·rintro (h |⟨j,e,B,C⟩)
   ·exact .inl h
   ·by_cases u:i=j
    ·subst u;exact .inr ⟨i,en',by rw[cN,YC rfl],C⟩
    ·exact .inr ⟨j,e,by rw[cN,XV u];exact B,C⟩
 have O:Un F.S0 ρ d b:= .inr ⟨i,en,hi,hb⟩;have G:Ext (Un F.S0 ρ d) (Un F.S0 ρ d) w w':=⟨by rw[hu.size];exact ZY _,fun k z A=>⟨hu.other k (fun e=>by subst e;exact A O),A⟩⟩;have K:Ext (Un F.S0 ρ d) (Un F.S0 ρ ((i,en')::d)) w w':=⟨G.size,fun k z A=>⟨(G.M1 k z A).1,fun h=>A ((I k).1 h)⟩⟩;have P:Ext (Un F.S0 ρ d) (Un F.S0 ρ ((i,en')::d)) w' w':=⟨ZY _,fun k z A=>⟨rfl,fun h=>A ((I k).1 h)⟩⟩;have L:∀j e,aY ((i,en')::d) j=some e->(j=i/\e=en')\/(j≠i/\aY d j=some e):=by
  intro j e h;rw[cN] at h;split at h
  ·rename_i u;cases h;exact .inl ⟨u.symm,rfl⟩
  ·rename_i u;exact .inr ⟨fun e=>u e.symm,h⟩
 have E:∀j e,aY ((i,en')::d) j=some e->∃e',aY d j=some e':=fun j e h=>by
  rcases L j e h with⟨rfl,_⟩|⟨_,h⟩
  ·exact⟨en,hi⟩
  ·exact⟨e,h⟩
 refine⟨⟨hc.low,by rw[hu.size];exact hc.size,fun k z M=>?_,hu.os.trans hc.os,hu.tape.trans hc.tape,hu.output.trans hc.output,fun j e h=>?_,fun j e k h H=>?_,fun j N e e' k h D Q R=>?_,fun j e k h H=>?_⟩,K⟩
 ·have:k≠b:=fun e=>by
   subst e;rcases (hc.fresh i en k hi hb).1 with h | h
   ·omega
   ·exact M h
  rw[hu.other k this];exact hc.frame k z M
 ·rcases L j e h with⟨rfl,rfl⟩|⟨U,h⟩
  ·exact XB.WY (L6 G) P (fun _ _=>rfl) (fun _ _=>rfl)
  ·refine XB.WY (hc.own j e h) K (fun _ _=>rfl) (fun k z=>hu.other k fun e'=>U ?_);subst e';exact hc.inj j i e en k h hi z hb
 ·obtain⟨e',D⟩:=E j e h;rw[hu.size];exact hc.fresh j e' k D H
 ·obtain⟨S,B⟩:=E j e h;obtain⟨T,C⟩:=E N e' D;exact hc.inj j N S T k B C Q R
 ·obtain⟨e',D⟩:=E j e h;exact hc.apart j e' k D H
theorem qH{o:aAi}{i:Nat}{en en':XB}(hi:aY O.d i=some en)(hd:o.dst=none)
  (h:∀(ρ:Nat->LV) (a:aAm) (w:aAa),Core F O.d ρ w->(∀t s,lk O.g t=some s->s.ok ρ (Un F.S0 ρ O.d) w (a.tmps.getD t undef))->∃b w',qX (ρ i) b/\ee b w w'/\(execOp a.eval o).run F.P w= .ok .skip w'/\
   (Ext (Un F.S0 ρ O.d) (Un F.S0 ρ O.d) w w'->en'.ok ρ (Un F.S0 ρ O.d) w' (ρ i))):JM F o O ⟨O.g,(i,en')::O.d⟩:=by
 rintro a w ⟨⟨ρ,u,z⟩,I,K⟩;obtain⟨b,w',B,C,D,E⟩:=h ρ a w u z;refine XC.skip D ?_;obtain⟨G,H⟩:=u.upd hi B C E;rw[hd];exact⟨⟨ρ,G,fun t s A=>Slot.WY s _ (z t s A) H (fun _ _=>rfl)⟩,I,K⟩
end
end Go.Sw
namespace Go.Sw
open Go Go.RowKit
section
variable {F:YP}{O:AS}{pb:Option Nat}{s:Slot}{d:Option Tmp}{ty:aAb}{p:String}{af:Array Edge}{gd:Option (Nat×Bool)}{x y:aAc}
theorem Kn{ρ:Nat->LV}{a:aAm}{w:aAa}(hs:∀t s,lk O.g t=some s->s.ok ρ (Un F.S0 ρ O.d) w (a.tmps.getD t undef))(h:dH O.g x=some s):s.ok ρ (Un F.S0 ρ O.d) w (a.eval x):=by
 cases x with
 |tmp t=>exact hs t s h
 |const u=>exact(Mm h ρ _ w).1
 |global g=>cases h
 |func f=>cases h
theorem Hp{ρ S w}{s:Slot}{cs:List aAd}(h:s.j9 ρ S w cs):∀v∈cs,s≠.top->v.oneCell'=true:=by
 intro v u C;cases s<;>simp only[Slot.j9] at h
 case v e z=>exact e.cell h v u
 case ref i=>obtain⟨⟨a,l,c,A⟩|⟨a,A⟩,rfl⟩:=h<;>(simp at u;rw[u,A];rfl)
 case ptr i B=>obtain⟨⟨b,A⟩,rfl⟩:=h;simp at u;rw[u,A];rfl
 case jc i B k n=>obtain⟨⟨b,A⟩,rfl⟩:=h;simp at u;rw[u,A];rfl
 case el i k n B=>obtain⟨⟨b,o,l,c,A⟩,rfl⟩:=h;simp at u;rw[u,A];rfl
 case D4 i B lo n cap=>obtain⟨⟨b,A⟩,rfl⟩:=h;simp at u;rw[u,A];rfl
 case pv i B n cap=>obtain⟨⟨b,o,l,c,A⟩,rfl⟩:=h;simp at u;rw[u,A];rfl
 case sub i B n=>obtain⟨⟨a,l,c,A⟩,D,E,F,G,rfl⟩:=h;simp at u;rw[u,A];cases a<;>rfl
 case ZH e z=>obtain⟨b,B,H,rfl,A⟩:=h;simp at u;rw[u];rfl
 case o7 g cap=>obtain⟨vs,rfl,A⟩:=h;simp at u;rw[u];rfl
 case top=>exact absurd rfl C
theorem lH{P:aAe}{w:aAa}{U T:aAb}{b off n:Nat}{v:aAd}{a c e:List aAd}(hS:∀w,(sizeOf U).run P w= .ok n w)(hn:v.cells.size=n)(G9:∀u∈v.cells.toList,u.oneCell'=true)
  (hb:w.heap[b]? =some (.cells (a++(c++e)).toArray T (0,0))) (kf:a.length=off) (hc:c.length=n):
  (storeVar U ⟨b,off,none⟩ v).run P w= .ok () (w.setRow b (a++(v.cells.toList++e)).toArray):=by
 unfold storeVar;simp only[Sem.run_bind,hS,Result.andThen_ok,hn,ne_eq,aC1,r5];have h:v.cells.toList.length=n:=by simpa using hn
 have:=run_storeCells_at P b off T v.cells.toList 0 _ w hb (by simp;omega) G9;simp only[aDh] at this;have z:(a++(c++e)).take off=a:=by rw[<-kf];exact aCo
 have A:(a++(c++e)).drop (off+v.cells.toList.length)=e:=by
  rw[<-H7];have:off+v.cells.toList.length=(a++c).length:=by rw[sM,kf,h,hc]
  rw[this];exact tv
 rw[z,A] at this;simpa[H7] using this
theorem lI{P:aAe}{a:aAm}{w w':aAa}{U:aAb}{ad:aAk}(h2:a.eval x= .pointer (some ad))(ZM:(storeVar U ad (a.eval y)).run P w= .ok () w'):
  (execOp a.eval ⟨d,.store U x y,ty,p,af,gd⟩).run P w= .ok .skip w':=by
 simp only[execOp,h2,Instr.storeAt,Instr.sureAddr,Sem.run_bind,Sem.run_pure,Result.andThen_ok,ZM]
theorem Uw{T U:aAb}{l:List Slot}{i off n:Nat}{s0:Slot}(hx:dH O.g x=some (.ptr i off))(he:aY O.d i=some (.box T l pb))(ho:nP l off=some s0)(hy:dH O.g y=some s)(hp:s.plain=true)(B4:Nat.beq s.sz n=true)(O0:Nat.beq s0.sz n=true)
  (hS:∀w,(sizeOf U).run F.P w= .ok n w):JM F ⟨none,.store U x y,ty,p,af,gd⟩ O ⟨O.g,(i,.box T (oC l off s) pb)::O.d⟩:=by
 replace B4:=D6 B4;replace O0:=D6 O0;refine qH he rfl fun ρ a w z A=>?_;have K:=cK z A (Op.store U x y).operands;obtain⟨b,S,B,I,C,L⟩:=zZ K (x:=x) (by simp[Op.operands]) hx he;have h:=rA hp (Kn A hy);obtain⟨M,c,N,rfl,rfl,Q,R⟩:=vK ho L;have D:∀u∈(a.eval y).cells.toList,u.oneCell'=true:=fun u G=>Hp h u G (fun e=>by subst e;cases hp);have E:=lH (P:=F.P) (w:=w) (U:=U) hS (by have:=nS h;simp only[ed] at this;omega) D C rfl (by rw[nS Q];exact O0);refine⟨b,w.setRow b (M++((a.eval y).cells.toList++N)).toArray,.inl (by rw[B];rfl),ee.setRow w b _,?_,fun H=>?_⟩
 ·exact lI I E
 ·refine⟨⟨b,_,B,setRow_heap w b _ _ T _ C,?_⟩,(z.own i _ he).2⟩;exact fW _ _ (R s _ h) H (fun _ _=>rfl)
theorem bT{α:Type}{e:Wr α}{z:α}{T U:aAb}{l l':List Slot}{i:Nat}(hx:dH O.g x=some (.ptr i 0))(he:aY O.d i=some (.box T l pb))(hl:Nat.beq (l.map Slot.sz).sum e.n=true)(hy:dH O.g y=some (.v e z))(ae:N3 l' e z)
  (hS:∀w,(sizeOf U).run F.P w= .ok e.n w):JM F ⟨none,.store U x y,ty,p,af,gd⟩ O ⟨O.g,(i,.box T l' pb)::O.d⟩:=by
 replace hl:=D6 hl;refine qH he rfl fun ρ a w D E=>?_;have K:=cK D E (Op.store U x y).operands;obtain⟨b,B,G,N,C,A⟩:=zZ K (x:=x) (by simp[Op.operands]) hx he;have h:=rA (s:= .v e z) rfl (Kn E hy);simp only[Slot.j9] at h;have H:B.length=e.n:=by
  rw[<-hl];clear hl hS hx he C K
  induction l generalizing B with
  |nil=>simp only[bO] at A;simp[A]
  |cons t l S=>
   simp only[bO] at A;obtain⟨c,d,rfl,Q,R⟩:=A;rw[sM,nS Q,S d R];simp
 have I:=lH (P:=F.P) (w:=w) (U:=U) (a:=[]) (c:=B) (e:=[]) hS (by have:=e.len h;simp only[ed] at this;omega) (fun u L=>e.cell h u L) (by simpa using C) rfl H;refine⟨b,w.setRow b ([]++((a.eval y).cells.toList++[])).toArray,.inl (by rw[G];rfl),ee.setRow w b _,?_,fun M=>?_⟩
 ·exact lI N I
 ·refine⟨⟨b,_,G,setRow_heap w b _ _ T _ C,?_⟩,(D.own i _ he).2⟩;refine fW _ _ ((ae _ _ _ _).2 ?_) M (fun _ _=>rfl);simpa using h
theorem Ko{T U:aAb}{l l':List Slot}{i n:Nat}(hx:dH O.g x=some (.ptr i 0))(he:aY O.d i=some (.box T l pb))(hl:(l.map Slot.sz).sum=n)(hy:dH O.g y=some (.agg l'))(ae:(l'.map Slot.sz).sum=n)(hnt:l'.all Slot.plain=true)
  (hS:∀w,(sizeOf U).run F.P w= .ok n w):JM F ⟨none,.store U x y,ty,p,af,gd⟩ O ⟨O.g,(i,.box T l' pb)::O.d⟩:=by
 refine qH he rfl fun ρ a w M N=>?_;have K:=cK M N (Op.store U x y).operands;obtain⟨b,z,Q,h2,R,h⟩:=zZ K (x:=x) (by simp[Op.operands]) hx he;have I:=Kn N hy;simp only[Slot.ok] at I;obtain⟨S,C,D⟩:=I;have L:∀(l:List Slot) (z:List aAd),bO ρ (Un F.S0 ρ O.d) w l z->z.length=(l.map Slot.sz).sum:=by
  intro l
  induction l with
  |nil=>intro z h;simp only[bO] at h;simp[h]
  |cons t l H=>
   intro z h;simp only[bO] at h;obtain⟨c,d,rfl,E,G⟩:=h;rw[sM,nS E,H d G];simp
 have V:∀(l:List Slot) (z:List aAd),l.all Slot.plain=true->bO ρ (Un F.S0 ρ O.d) w l z->∀u∈z,u.oneCell'=true:=by
  intro l
  induction l with
  |nil=>intro z _ h;simp only[bO] at h;simp[h]
  |cons t l H=>
   intro z B h u A;simp only[bO] at h;obtain⟨c,d,rfl,E,G⟩:=h;simp only[List.all_cons,K0] at B;rcases S9.1 A with A | A
   ·exact Hp E u A (fun e=>by subst e;cases B.1)
   ·exact H d B.2 G u A
 have X:=lH (P:=F.P) (w:=w) (U:=U) (a:=[]) (c:=z) (e:=[]) (v:=a.eval y) hS (by rw[C];simp[Value.cells,L l' S D,ae]) (by rw[C];simpa[Value.cells] using V l' S hnt D) (by simpa using R) rfl (by rw[L l z h,hl]);refine⟨b,w.setRow b ([]++((a.eval y).cells.toList++[])).toArray,.inl (by rw[Q];rfl),ee.setRow w b _,?_,fun hE=>?_⟩
 ·exact lI h2 X
 ·refine⟨⟨b,_,Q,setRow_heap w b _ _ T _ R,?_⟩,(M.own i _ he).2⟩;refine fW _ _ ?_ hE (fun _ _=>rfl);rw[C];simpa[Value.cells] using D
theorem QN{xs:Array aAc}{ρ:Nat->LV}{S a w}(K:B3 O xs ρ S a w)(hm:x∈xs){α:Type}{e:Wr α}{zs:List α}{T:aAb}{i k off:Nat}(hx:dH O.g x=some (.el i k e.n off))(he:aY O.d i=some (.arr T e zs)):
  ∃b cap pre cs post,(ρ i).v= .slice (some ⟨b,pre.length,none⟩) zs.length cap/\a.eval x= .pointer (some ⟨b,pre.length+(k*e.n+off),none⟩)/\w.heap[b]? =some (.cells (pre++(cs++post)).toArray T (0,0))/\e.j7 zs S w cs/\
   zs.length<=cap/\cap*e.n<=cs.length+post.length/\zs.length<=140737488355328:=by
 have h:=K.slot x hm _ hx;simp only[Slot.ok] at h;obtain⟨⟨b,o,l,c,z⟩,B⟩:=h;have:=(K.G6 x hm _ hx i (by simp[Slot.ZR]) _ he).1;rw[z] at B;rcases this with⟨_,u⟩|⟨E,cap,pre,cs,post,u,C,D⟩
 ·rw[z] at u;cases u
 ·have A:=z.symm.trans u;simp only[Value.slice.injEq,E4,Addr.mk.injEq,aEi] at A;obtain⟨⟨rfl,rfl⟩,_,_⟩:=A;exact⟨b,cap,pre,cs,post,u,B,C,D⟩
theorem jE{α:Type}{e:Wr α}{zs:List α}{T U E:aAb}{k:aAg}{n:Int}{z:α}{i:Nat}(hz:Sw.idx zs n=some z)(hx:dH O.g x=some (.ref i))(he:aY O.d i=some (.arr T e zs))(hy:dH O.g y=some (.v (Wr.int k) n))
  (hU:∀w,(underlying U).run F.P w= .ok (.slice E) w) (hE:∀w,(sizeOf E).run F.P w= .ok e.n w):JO F ⟨d,.indexAddr U x y,ty,p,af,gd⟩ O (.el i n.toNat e.n 0) []:=by
 intro ρ S a w K;obtain⟨B,C,_⟩:=yW K (x:=x) (by simp[Op.operands]) hx he;have A:=(fY K (x:=y) (by simp[Op.operands]) hy).1;obtain⟨D,G,H⟩:=dL hz;rcases C with⟨rfl,_⟩|⟨b,cap,u,I,L,h,_⟩
 ·simp at G
 refine XC.value (w':=w) (v:= .pointer (some ⟨b,u.length+n.toNat*e.n,none⟩)) ?_ (ZC.same (by simp only[Slot.ok];exact⟨⟨b,_,_,_,h⟩,by rw[h];simp[Ml]⟩));have:=Dk (P:=F.P) (w:=w) (b:=b) (off:=u.length) (cap:=cap) (k:=k) hU hE D (by omega:n<(zs.length:Int));simp only[execOp,B,A,h];simp[this]
theorem jY{α β:Type}{e:Wr α}{zs:List α}{z:α}{e':Wr β}{z':β}{T U:aAb}{i k off:Nat}(hz:zs[k]? =some z)(hx:dH O.g x=some (.el i k e.n off))(he:aY O.d i=some (.arr T e zs))(hp:xl e z off e' z')
  (hA:∀w,(isAgg U).run F.P w= .ok e'.agg w) (hS:∀w,(sizeOf U).run F.P w= .ok e'.n w):JO F ⟨d,.load U x,ty,p,af,gd⟩ O (.v e' z') []:=by
 intro ρ S a w K;obtain⟨b,aa,h,cs,C,h1,M,N,Q,_⟩:=QN K (x:=x) (by simp[Op.operands]) hx he;obtain⟨u,c,D,rfl,R,V,_⟩:=qY Q hz;obtain⟨A,c2,E,rfl,X,G⟩:=hp S w c V;have H:XK w b (h.length+(k*e.n+off)) c2:=by
  have B:=XK.of_heap N;have I:h++(u++(A++(c2++E)++D)++C)=(h++u++A)++(c2++(E++D++C)):=by simp
  rw[I] at B;have:=B.sub;have L:0+(h++u++A).length=h.length+(k*e.n+off):=by simp only[sM,R,X];omega
  rw[L] at this;exact this
 refine XC.value (w':=w) (v:=e'.pk c2) ?_ (ZC.same (by simp only[Slot.ok];exact⟨c2,G,rfl⟩));have:=Gl (P:=F.P) H G hA hS;simp[execOp,M,Instr.loadAt,Instr.sureAddr,this]
theorem Bf(o':Nat){α:Type}{e:Wr α}{U:aAb}{fs:Array aAh}{n m i k off:Nat}{fl:aAh}(hx:dH O.g x=some (.el i k e.n off))(hU:∀w,(underlying U).run F.P w= .ok (.struct fs) w)(hf:fs[n]? =some fl)
  (hm:∀w,(sizeOf fl.type).run F.P w= .ok m w) (j5:Nat.beq m 0=false) (ho:Nat.beq (off+fl.offset) o'=true):JO F ⟨d,.fieldAddr U x n,ty,p,af,gd⟩ O (.el i k e.n o') []:=by
 have ho:=D6 ho;subst ho;intro ρ S a w K;have h:=K.slot x (by simp[Op.operands]) _ hx;simp only[Slot.ok] at h;obtain⟨⟨b,o,l,c,u⟩,z⟩:=h;rw[u] at z;refine XC.value (w':=w) (v:= .pointer (some ⟨b,o+(k*e.n+off)+fl.offset,none⟩)) ?_ (ZC.same (by simp only[Slot.ok];exact⟨⟨b,o,l,c,u⟩,by rw[u];simp[Ml];omega⟩));have:=Dj (P:=F.P) (w:=w) (b:=b) (off:=o+(k*e.n+off)) hU hf hm j5;simp only[execOp,z,Ml];simp[this]
theorem rD{α:Type}{e:Wr α}{zs:List α}{z z':α}{T U:aAb}{i k:Nat}(hz:zs[k]? =some z)(hx:dH O.g x=some (.el i k e.n 0))(he:aY O.d i=some (.arr T e zs))(hy:dH O.g y=some (.v e z'))
  (hS:∀w,(sizeOf U).run F.P w= .ok e.n w):JM F ⟨none,.store U x y,ty,p,af,gd⟩ O ⟨O.g,(i,.arr T e (zs.set k z'))::O.d⟩:=by
 refine qH he rfl fun ρ a w Q G=>?_;have K:=cK Q G (Op.store U x y).operands;obtain⟨b,V,h,cs,A,H,X,E,h4,h5,h6,h7⟩:=QN K (x:=x) (by simp[Op.operands]) hx he;have D:=rA (s:= .v e z') rfl (Kn G hy);simp only[Slot.j9] at D;obtain⟨B,c,C,rfl,hl,I,y6⟩:=qY h4 hz;have L:h++(B++(c++C)++A)=(h++B)++(c++(C++A)):=by simp
 rw[L] at E;have M:=lH (P:=F.P) (w:=w) (U:=U) (off:=h.length+(k*e.n+0)) hS (by have:=e.len D;simp only[ed] at this;omega) (fun u R=>e.cell D u R) E (by simp[hl]) (e.len I);have N:(h++B)++((a.eval y).cells.toList++(C++A))=h++((B++((a.eval y).cells.toList++C))++A):=by simp
 refine⟨b,w.setRow b ((h++B)++((a.eval y).cells.toList++(C++A))).toArray,.inl (by rw[H];rfl),ee.setRow w b _,?_,fun S=>?_⟩
 ·exact lI X M
 ·refine .inr ⟨b,V,h,B++((a.eval y).cells.toList++C),A,by simpa using H,?_,Wr.XF (y6 z' _ D) S,by simpa using h5,?_,by simpa using h7⟩
  ·rw[<-N];exact setRow_heap w b _ _ T _ E
  ·have:=e.len D;have:=e.len I;simp only[sM] at h6 ⊢;omega
theorem Mv{P:aAe}{w:aAa}{U E:aAb}{m b off len:Nat}{k:aAg}{n:Int}(hU:∀w,(underlying U).run P w= .ok (.array len E) w)(hE:∀w,(sizeOf E).run P w= .ok m w)(h0:0<=n)(h1:n<len):
  (Instr.indexAt U (.pointer (some ⟨b,off,none⟩)) (.int k n)).run P w= .ok (.pointer (some ⟨b,off+n.toNat*m,none⟩)) w:=by
 have:Addr.add ⟨b,off,none⟩ (n.toNat*m)=⟨b,off+n.toNat*m,none⟩:=Addr.add_lit _ _ _;simp[Instr.indexAt,asIntOf,hU,Instr.sureAddr,h0,h1,hE,this]
theorem rR{α:Type}{e:Wr α}{zs:List α}{T U E:aAb}{l:List Slot}{len i off:Nat}{k:aAg}{n:Int}{z:α}(hz:Sw.idx zs n=some z)(hx:dH O.g x=some (.ptr i off))(he:aY O.d i=some (.box T l pb))(ho:nP l off=some (.v (Wr.arr len e) zs))
  (hy:dH O.g y=some (.v (Wr.int k) n)) (hU:∀w,(underlying U).run F.P w= .ok (.array len E) w) (hE:∀w,(sizeOf E).run F.P w= .ok e.n w):JO F ⟨d,.indexAddr U x y,ty,p,af,gd⟩ O (.jc i off n.toNat e.n) []:=by
 intro ρ S a w K;obtain⟨b,H,h,B,I,C⟩:=zZ K (x:=x) (by simp[Op.operands]) hx he;have A:=(fY K (x:=y) (by simp[Op.operands]) hy).1;obtain⟨D,L,M⟩:=dL hz;obtain⟨N,c,Q,rfl,_,u,_⟩:=vK ho C;simp only[Slot.j9] at u;have G:=u.1;refine XC.value (w':=w) (v:= .pointer (some ⟨b,off+n.toNat*e.n,none⟩)) ?_ (ZC.same (by simp only[Slot.ok];exact⟨⟨b,h⟩,by rw[h];rfl⟩));have:=Mv (P:=F.P) (w:=w) (b:=b) (off:=off) (k:=k) hU hE D (by omega:n<(len:Int));simp only[execOp,B,A];simp[this]
theorem PR{xs:Array aAc}{ρ:Nat->LV}{S a w}(K:B3 O xs ρ S a w)(hm:x∈xs){i off k n:Nat}{T:aAb}{l:List Slot}(hx:dH O.g x=some (.jc i off k n))(he:aY O.d i=some (.box T l pb)):
  ∃b cs,(ρ i).v= .pointer (some ⟨b,0,none⟩)/\a.eval x= .pointer (some ⟨b,off+k*n,none⟩)/\w.heap[b]? =some (.cells cs.toArray T (0,0))/\bO ρ S w l cs:=by
 have h:=K.slot x hm _ hx;simp only[Slot.ok] at h;obtain⟨⟨b,u⟩,z⟩:=h;have:=(K.G6 x hm _ hx i (by simp[Slot.ZR]) _ he).1;rw[u] at z;obtain⟨⟨A,cs,B,C,D⟩,_⟩:=this;have:A=b:=by rw[u] at B;simpa using B.symm
 subst this;exact⟨A,cs,u,z,C,D⟩
theorem vL{α:Type}{e:Wr α}{zs:List α}{z:α}{T U:aAb}{l:List Slot}{len i off k:Nat}(hz:zs[k]? =some z)(hx:dH O.g x=some (.jc i off k e.n))(he:aY O.d i=some (.box T l pb))(ho:nP l off=some (.v (Wr.arr len e) zs))
  (hA:∀w,(isAgg U).run F.P w= .ok e.agg w) (hS:∀w,(sizeOf U).run F.P w= .ok e.n w):JO F ⟨d,.load U x,ty,p,af,gd⟩ O (.v e z) []:=by
 intro ρ S a w K;obtain⟨b,V,X,L,M,N⟩:=PR K (x:=x) (by simp[Op.operands]) hx he;obtain⟨h,c,B,rfl,Q,C,_⟩:=vK ho N;simp only[Slot.j9] at C;obtain⟨u,c',D,rfl,R,E,_⟩:=qY C.2 hz;have G:XK w b (off+k*e.n) c':=by
  have A:=XK.of_heap M;have H:h++(u++(c'++D)++B)=(h++u)++(c'++(D++B)):=by simp
  rw[H] at A;have:=A.sub;have I:0+(h++u).length=off+k*e.n:=by simp[R,Q]
  rw[I] at this;exact this
 refine XC.value (w':=w) (v:=e.pk c') ?_ (ZC.same (by simp only[Slot.ok];exact⟨c',E,rfl⟩));have:=Gl (P:=F.P) G E hA hS;simp[execOp,L,Instr.loadAt,Instr.sureAddr,this]
theorem Dn{α:Type}{e:Wr α}{zs:List α}{z z':α}{T U:aAb}{l:List Slot}{len i off k:Nat}(hz:zs[k]? =some z)(hx:dH O.g x=some (.jc i off k e.n))(he:aY O.d i=some (.box T l pb))(ho:nP l off=some (.v (Wr.arr len e) zs))
  (hy:dH O.g y=some (.v e z')) (hS:∀w,(sizeOf U).run F.P w= .ok e.n w):JM F ⟨none,.store U x y,ty,p,af,gd⟩ O ⟨O.g,(i,.box T (oC l off (.v (Wr.arr len e) (zs.set k z'))) pb)::O.d⟩:=by
 refine qH he rfl fun ρ a w H I=>?_;have K:=cK H I (Op.store U x y).operands;obtain⟨b,cs,L,X,G,h4⟩:=PR K (x:=x) (by simp[Op.operands]) hx he;have D:=rA (s:= .v e z') rfl (Kn I hy);simp only[Slot.j9] at D;obtain⟨B,c,C,rfl,YM,E,h6⟩:=vK ho h4;simp only[Slot.j9] at E;obtain⟨aa,E⟩:=E;obtain⟨h,M,A,rfl,hl,V2,y6⟩:=qY E hz;have N:B++(h++(M++A)++C)=(B++h)++(M++(A++C)):=by simp
 rw[N] at G;have Q:=lH (P:=F.P) (w:=w) (U:=U) (off:=off+k*e.n) hS (by have:=e.len D;simp only[ed] at this;omega) (fun u S=>e.cell D u S) G (by simp[hl,YM]) (e.len V2);have R:(B++h)++((a.eval y).cells.toList++(A++C))=B++((h++((a.eval y).cells.toList++A))++C):=by simp
 refine⟨b,w.setRow b ((B++h)++((a.eval y).cells.toList++(A++C))).toArray,.inl (by rw[L];rfl),ee.setRow w b _,?_,fun V=>?_⟩
 ·exact lI X Q
 ·refine⟨⟨b,B++((h++((a.eval y).cells.toList++A))++C),L,?_,?_⟩,(H.own i _ he).2⟩
  ·rw[<-R];exact setRow_heap w b _ _ T _ G
  ·refine fW _ _ (h6 (.v (Wr.arr len e) (zs.set k z')) (h++((a.eval y).cells.toList++A)) ?_) V (fun _ _=>rfl);simp only[Slot.j9];exact⟨by simpa using aa,y6 z' _ D⟩
end
end Go.Sw
namespace Go.Sw
open Go Go.RowKit
def wN(d:List (Nat×XB))(i:Nat):List (Nat×XB):=match d with
 | []=>[]
 | (j,h)::r=>bif Nat.beq j i then wN r i else (j,h)::wN r i
theorem Lv{i k:Nat}:∀{d:List (Nat×XB)},aY (wN d i) k=if k=i then none else aY d k
 | []=>by simp[wN,aY]
 | (j,A)::r=>by
  have u:=Lv (i:=i) (k:=k) (d:=r);simp only[wN];cases hb:Nat.beq j i with
  |true=>
   have:=D6 hb;subst this;simp only[YX,u,cN];by_cases h:k=j
   ·simp[h]
   ·have:¬j=k:=fun e=>h e.symm;simp[h,this]
  |false=>
   have z:j≠i:=fun e=>by subst e;simp at hb
   simp only[pF,cN,u];by_cases h:j=k
   ·subst h;simp[z]
   ·simp[h]
structure w7 (b:Option Nat) (w w':aAa):Prop where
 size:w.heap.size<=w'.heap.size
 other:∀k,k<w.heap.size->some k≠b->w'.heap[k]? =w.heap[k]?
 os:w'.os=w.os
 tape:w'.tape=w.tape
 output:w'.output=w.output
theorem w7.setRow(w:aAa)(b:Nat)(cs:Array aAd):w7 (some b) w (w.setRow b cs):=⟨by simp[World.setRow],fun k _ h=>setRow_other w b k cs (fun e=>h (by rw[e])),rfl,rfl,rfl⟩
theorem w7.refl(b:Option Nat)(w:aAa):w7 b w w:=⟨ZY _,fun _ _ _=>rfl,rfl,rfl,rfl⟩
theorem w7.alloc(b:Option Nat)(w:aAa)(o:Obj):w7 b w (w.drew.alloc o):=⟨by simp,fun k h _=>heap_alloc_old w.drew o k h,rfl,rfl,rfl⟩
section
variable {F:YP}{O:AS}{s:Slot}{d:Option Tmp}{ty:aAb}{p:String}{af:Array Edge}{gd:Option (Nat×Bool)}{x y:aAc}
theorem BC{ρ:Nat->LV}{a:aAm}{w w':aAa}{i j:Nat}{en en':XB}{u:LV}(hc:Core F O.d ρ w)(hs:∀t s,lk O.g t=some s->s.ok ρ (Un F.S0 ρ O.d) w (a.tmps.getD t undef))(hz:a.tmps.size=F.N)(j4:a.defers=F.df)
  (hi:aY O.d i=some en) (hf:O.free [(j,en')]=true) (p8:gS d F.N=true) (hu:w7 (j1 (ρ i).v) w w') (hsh:AT u.v) (E2:en'.ZR=[])
  (hb:∀b,qX u b->(qX (ρ i) b\/w.heap.size<=b)/\b<w'.heap.size)
  (L6:∀S' ρ',Ext (Un F.S0 ρ O.d) S' w w'->en'.ok ρ' S' w' u):St F ⟨iV d (.ref j) O.g,(j,en')::wN O.d i⟩ (a.put d u.v) w':=by
 let ρ':Nat->LV:=fun k=>if k=j then u else ρ k
 have H:ρ' j=u:=YC rfl;have E:∀k,k≠j->ρ' k=ρ k:=fun k h=>XV h;have V:=lD hf (i:=j) (en:=en') (by simp[aY]);have L:∀k e,aY ((j,en')::wN O.d i) k=some e->(k=j/\e=en')\/(k≠j/\k≠i/\aY O.d k=some e):=by
  intro k e h;rw[cN] at h;split at h
  ·rename_i z;cases h;exact .inl ⟨z.symm,rfl⟩
  ·rename_i z;rw[Lv] at h;split at h
   ·cases h
   ·rename_i B;exact .inr ⟨fun e=>z e.symm,B,h⟩
 have hU:∀k,k<w.heap.size->Un F.S0 ρ' ((j,en')::wN O.d i) k->Un F.S0 ρ O.d k:=by
  rintro k I (h |⟨q,e,z,B⟩)
  ·exact .inl h
  ·rcases L q e z with⟨rfl,rfl⟩|⟨A,D,M⟩
   ·rw[H] at B;rcases (hb k B).1 with h | h
    ·exact .inr ⟨i,en,hi,h⟩
    ·omega
   ·rw[E q A] at B;exact .inr ⟨q,e,M,B⟩
 have T:Ext (Un F.S0 ρ O.d) (Un F.S0 ρ' ((j,en')::wN O.d i)) w w':=⟨hu.size,fun k I hn=>⟨hu.other k I (fun e=>hn (.inr ⟨i,en,hi,.inl e.symm⟩)),fun h=>hn (hU k I h)⟩⟩;have ac:∀t s,lk O.g t=some s->mU ρ ρ' s.ZR:=fun t s h k I=>congrArg LV.v (E k fun e=>by subst e;exact V.1 t s h I);have X:∀k e b,k≠i->aY O.d k=some e->qX (ρ k) b->¬qX (ρ i) b:=fun k e b h z B A=>h (hc.inj k i e en b z hi B A);refine⟨⟨ρ',⟨hc.low,ik hc.size hu.size,fun k I hr=>?_,hu.os.trans hc.os,hu.tape.trans hc.tape,hu.output.trans hc.output,fun k e h=>?_,fun k e b h C=>?_,fun k P e K b h h' R Q=>?_,fun k e b h C=>?_⟩,?_⟩,by rw[lE,hz],by cases d<;>exact j4⟩
 ·rw[hu.other k (X0 I hc.size) (fun e=>?_)]
  ·exact hc.frame k I hr
  ·rcases (hc.fresh i en k hi (.inl e.symm)).1 with h | h
   ·omega
   ·exact hr h
 ·rcases L k e h with⟨rfl,rfl⟩|⟨z,B,A⟩
  ·rw[H];exact L6 _ _ T
  ·rw[E k z];refine XB.WY (hc.own k e A) T (fun q hq=>congrArg LV.v (E q fun K=>?_)) (fun b C=>hu.other b (hc.fresh k e b A C).2 (fun K=>X k e b B A C (.inl K.symm)));subst K;exact V.2.2 k e A hq
 ·rcases L k e h with⟨rfl,rfl⟩|⟨z,B,A⟩
  ·rw[H] at C;obtain⟨D,M⟩:=hb b C;refine⟨?_,M⟩;rcases D with D | D
   ·exact(hc.fresh i en b hi D).1
   ·exact .inl (ik hc.size D)
  ·rw[E k z] at C;exact⟨(hc.fresh k e b A C).1,X0 (hc.fresh k e b A C).2 hu.size⟩
 ·have aa:∀k e,k≠j->k≠i->aY O.d k=some e->qX (ρ k) b->qX u b->False:=fun k e _ B A D M=>by
   rcases (hb b M).1 with h6 | h6
   ·exact X k e b B A D h6
   ·have:=(hc.fresh k e b A D).2;omega
  rcases L k e h with⟨rfl,rfl⟩|⟨z,B,A⟩
  ·rcases L P K h' with⟨rfl,rfl⟩|⟨S,D3,U⟩
   ·rfl
   ·rw[H] at R;rw[E P S] at Q;exact(aa P K S D3 U Q R).elim
  ·rw[E k z] at R;rcases L P K h' with⟨rfl,rfl⟩|⟨S,D3,U⟩
   ·rw[H] at Q;exact(aa k e z B A R Q).elim
   ·rw[E P S] at Q;exact hc.inj k P e K b A U R Q
 ·rcases L k e h with⟨rfl,rfl⟩|⟨z,B,A⟩
  ·rw[H] at C;rcases (hb b C).1 with D | D
   ·exact hc.apart i en b hi D
   ·intro M;have:=hc.low b M;have:=hc.size;omega
  ·rw[E k z] at C;exact hc.apart k e b A C
 ·intro t s G;have ab:∀t s,lk O.g t=some s->s.ok ρ' (Un F.S0 ρ' ((j,en')::wN O.d i)) w' (a.tmps.getD t undef):=fun t s G=>Slot.WY s _ (hs t s G) T (ac t s G);cases d with
  |none=>exact ab t s G
  |some q=>
   simp only[iV] at G;have YI:q<a.tmps.size:=(by rw[hz];exact E7 p8);rw[lF a q u.v t YI];rw[mN] at G;split at G
   ·rename_i z;cases G;rw[YC z];simp only[Slot.ok];exact⟨by rw[H];exact hsh,by rw[H]⟩
   ·rename_i z;rw[XV z];exact ab t s G
def Src(O:AS)(y:aAc){α:Type}(e:Wr α)(ys:List α):Prop:=∀(ρ:Nat->LV) (S:Nat->Prop) (a:aAm) (w:aAa),B3 O #[y] ρ S a w->
 ys.length<=140737488355328/\∃ad cap,a.eval y= .slice ad ys.length cap/\(ys=[]\/∃b off ds,ad=some ⟨b,off,none⟩/\XK w b off ds/\e.j7 ys S w ds)
theorem Src.sl{α:Type}{e:Wr α}{ys:List α}(h:dH O.g y=some (.v (Wr.sl e) ys)):Src O y e ys:=by
 intro ρ S a w K;have z:=K.slot y (by simp) _ h;simp only[Slot.ok] at z;obtain⟨A,B,C,D,u⟩:=sP.1 z;refine⟨D.2,A,B,C,?_⟩;rcases u with u |⟨b,E,F,G,_,_,H,I⟩
 ·exact .inl u
 ·exact .inr ⟨b,E,F,G,H,I⟩
def app{α:Type}(xs ys:List α):Option (List α):=if xs.length+ys.length<=4294967296 then some (xs++ys) else none
theorem Ux{α:Type}{xs ys zs:List α}(h:app xs ys=some zs):xs.length+ys.length<=4294967296/\zs=xs++ys:=by
 unfold app at h;split at h
 ·rename_i u;exact⟨u,by cases h;rfl⟩
 ·cases h
theorem tX{P:aAe}{w:aAa}{U E tt:aAb}{n:Nat}{base ad:Option aAk}{l c cap:Nat}(hU:∀w,(underlying U).run P w= .ok (.slice E) w)(hE:∀w,(sizeOf E).run P w= .ok n w)(hle:l<=cap):
  (Builtin.append_ #[U,U] tt #[.slice base l cap,.slice ad 0 c]).run P w= .ok (.slice base l cap) w:=by
 have h:(Builtin.firstCells n 0 (.slice ad 0 c)).run P w= .ok #[] w:=by
  cases ad<;>simp[Builtin.firstCells,loadCells,loadCellsFrom]
 cases base<;>simp[Builtin.append_,hU,hE,Builtin.lenOf,hle,h,storeCells]
theorem Gb{P:aAe}{w:aAa}{U E tt:aAb}{n g off l cap m c:Nat}{cur:List aAd}{a:aAk}{news:List aAd}(hU:∀w,(underlying U).run P w= .ok (.slice E) w)(hE:∀w,(sizeOf E).run P w= .ok n w)
  (hg:w.heap[g]? =some (.cells cur.toArray E (0,0))) (hl:news.length=m*n) (H0:∀j u,news[j]? =some u->w.cell? (a.add j)=some u) (h1:∀u∈news,u.oneCell'=true) (R0:l+m<=cap) (U9:off+l*n+news.length<=cur.length):
  (Builtin.append_ #[U,U] tt #[.slice (some ⟨g,off,none⟩) l cap,.slice (some a) m c]).run P w=
   .ok (.slice (some ⟨g,off,none⟩) (l+m) cap) (w.setRow g (cur.take (off+l*n)++news++cur.drop (off+l*n+news.length)).toArray):=by
 have z:=run_firstCells_some (P:=P) w n m a m c news hl H0;have h:=run_storeCells_at P g (off+l*n) E news 0 cur.toArray w hg (by simpa using U9) h1;simp only[aDh] at h;simp[Builtin.append_,hU,hE,Builtin.lenOf,R0,z,Addr.add_lit,h]
theorem bU{α:Type}{e:Wr α}{xs ys zs:List α}{T U:aAb}{ti:TypeInfo}{z:aAd}{i:Nat}(j:Nat)(ha:app xs ys=some zs)(hx:dH O.g x=some (.ref i))(he:aY O.d i=some (.arr T e xs))(hy:Src O y e ys)
  (hU:∀w,(underlying U).run F.P w= .ok (.slice T) w) (hI:∀w,(typeInfo T).run F.P w= .ok ti w) (hS:∀w,(sizeOf T).run F.P w= .ok e.n w) (hz:ti.zero=some z) (hzs:z.cells.size=e.n) (ah:Nat.ble ti.bytes 4096=true)
  (hf:O.free [(j,.arr T e zs)]=true) (hd:gS d F.N=true):
  JM F ⟨d,.call ⟨.builtin .append,#[x,y],#[U,U]⟩,ty,p,af,gd⟩ O ⟨iV d (.ref j) O.g,(j,.arr T e zs)::wN O.d i⟩:=by
 obtain⟨aa,rfl⟩:=Ux ha;have ah:=E7 ah;rintro a w ⟨⟨ρ,hc,hs⟩,B4,j4⟩;have K:=cK hc hs (Op.call ⟨.builtin .append,#[x,y],#[U,U]⟩).operands;have ab:ti.size=e.n:=Lu hI hS;obtain⟨h1,A,h3⟩:=yW K (x:=x) (by simp[Op.operands,Call.operands]) hx he;have ZK:∀q,q∈#[y]->q∈(Op.call ⟨.builtin .append,#[x,y],#[U,U]⟩).operands:=by
  intro q S;have S8:q=y:=by simpa using S
  subst S8;simp[Op.operands,Call.operands]
 obtain⟨X7,ad,c,h4,h5⟩:=hy ρ _ a w ⟨K.low,fun q S s h=>K.slot q (ZK q S) s h,fun q S s h=>K.G6 q (ZK q S) s h⟩;have po:∀v w',(Builtin.append_ #[U,U] ty #[(ρ i).v,.slice ad ys.length c]).run F.P w= .ok v w'->(execOp a.eval ⟨d,.call ⟨.builtin .append,#[x,y],#[U,U]⟩,ty,p,af,gd⟩).run F.P w= .ok (.value v) w':=by
  intro v w' h;simp[execOp,resolve,invoke,builtin,h1,h4,h]
 have fin:∀u w',(Builtin.append_ #[U,U] ty #[(ρ i).v,.slice ad ys.length c]).run F.P w= .ok u w'->w7 (j1 (ρ i).v) w w'->AT u->(∀b,j1 u=some b->(j1 (ρ i).v=some b\/w.heap.size<=b)/\b<w'.heap.size)->
   (∀C ρ',Ext (Un F.S0 ρ O.d) C w w'->(XB.arr T e (xs++ys)).ok ρ' C w' (.of u))->
   XC F.P ⟨d,.call ⟨.builtin .append,#[x,y],#[U,U]⟩,ty,p,af,gd⟩ a w fun v w'=>St F ⟨iV d (.ref j) O.g,(j,.arr T e (xs++ys))::wN O.d i⟩ (a.put d v) w':=
  fun u w' H hu an hb L6=>XC.value (po u w' H) (BC (u:= .of u) hc hs B4 j4 he hf hd hu an rfl (fun b h=>⟨(hb b (pN.1 h)).1.imp .inl id,(hb b (pN.1 h)).2⟩) L6)
 rcases h5 with rfl |⟨b,ae,D,rfl,hm,ki⟩
 ·
  rw[cw] at*;rcases A with⟨rfl,A⟩|⟨b,cap,B,cs,G,A,I,L,M,h9⟩
  ·refine fin (.slice none 0 0) w ?_ (w7.refl _ _) (.inl ⟨_,_,_,rfl⟩) (fun b h=>by simp[j1] at h) (fun _ _ _=> .inl ⟨rfl,rfl⟩);rw[A];exact tX hU hS (ZY _)
  ·refine fin (ρ i).v w ?_ (w7.refl _ _) (.inl ⟨_,_,_,A⟩) (fun b h=>⟨.inl h,(h3 b (.inl h)).2⟩) (fun C ρ' E=>?_)
   ·rw[A];exact tX hU hS M
   ·exact .inr ⟨b,cap,B,cs,G,A,I,Wr.XF L E,M,h9⟩
 ·have Q:=cR ki;have R3:=hm.cell;have G9:=rP ki;have ac:∀(C:Nat->Prop) (w':aAa) (cs:List aAd),Ext (Un F.S0 ρ O.d) C w w'->e.j7 xs (Un F.S0 ρ O.d) w cs->e.j7 (xs++ys) C w' (cs++D):=fun C w' cs E h=>gN (Wr.XF h E) (Wr.XF ki E);have qm:∀q,(Builtin.zeroCells z.cells q).toList.length=q*e.n:=fun q=>by rw[ed,size_zeroCells,hzs]
  by_cases ai:ys.length=0
  ·
   have aj:ys=[]:=kt ai;subst aj;rw[cw] at*;rcases A with⟨rfl,A⟩|⟨X,cap,B,cs,G,A,I,L,M,h9⟩
   ·refine fin (.slice none 0 0) w ?_ (w7.refl _ _) (.inl ⟨_,_,_,rfl⟩) (fun b h=>by simp[j1] at h) (fun _ _ _=> .inl ⟨rfl,rfl⟩);rw[A];exact tX hU hS (ZY _)
   ·refine fin (ρ i).v w ?_ (w7.refl _ _) (.inl ⟨_,_,_,A⟩) (fun b h=>⟨.inl h,(h3 b (.inl h)).2⟩) (fun C ρ' E=>?_)
    ·rw[A];exact tX hU hS M
    ·exact .inr ⟨X,cap,B,cs,G,A,I,Wr.XF L E,M,h9⟩
  rcases A with⟨rfl,A⟩|⟨g,cap,B,cs,G,A,I,L,M,h9,Y8⟩
  ·
   have H:=run_append_nil (P:=F.P) w U ty T ti z (rC hU) (uM hI) hz ⟨b,ae,none⟩ ys.length c D (by rw[ab];exact Q) R3 (by omega) (by simp at aa;omega) (by
    have:ys.length*ti.bytes<=4294967296*4096:=aCu (by simp at aa;omega) ah
    omega)
   have kg:=grownCap_ge w ys.length 0 T;refine fin _ _ (by rw[A];exact H) (w7.alloc _ _ _) (.inl ⟨_,_,_,rfl⟩) (fun X h=>?_) (fun C ρ' E=>?_)
   ·simp only[j1,E4] at h;subst h;exact⟨.inr (ZY _),by simp⟩
   ·have nq:=ac C _ [] E rfl;simp only[Z1] at nq ⊢;refine .inr ⟨w.heap.size,_,[],D,(Builtin.zeroCells z.cells (grownCap w ys.length 0 T - ys.length)).toList,rfl,?_,nq,kg,?_,by simp at aa;omega⟩
    ·rw[show w.heap.size=w.drew.heap.size from rfl,heap_alloc_new];simp
    ·rw[Q,qm,<-O8];exact xj _ (by omega)
  ·by_cases V:xs.length+ys.length<=cap
   ·
    have R:=cR L;have U9:B.length+xs.length*e.n+D.length<=(B++(cs++G)).length:=by
     have:(xs.length+ys.length)*e.n<=cap*e.n:=xj _ V;rw[O8] at this;simp only[sM];omega
    have H:=Gb (P:=F.P) (w:=w) (tt:=ty) (cap:=cap) (c:=c) hU hS I (by exact Q) R3 G9 V U9;have e1:(B++(cs++G)).take (B.length+xs.length*e.n)=B++cs:=by
     rw[<-H7,<-R,<-sM];exact aCo
    have e2:(B++(cs++G)).drop (B.length+xs.length*e.n+D.length)=G.drop D.length:=by
     rw[<-H7,<-R,<-sM,aD6];simp
    rw[e1,e2] at H;refine fin _ _ (by rw[A];exact H) (by rw[A];exact w7.setRow w g _) (.inl ⟨_,_,_,rfl⟩) (fun X h=>?_) (fun C ρ' E=>?_)
    ·rw[A];simp only[j1,E4] at h ⊢;subst h;exact⟨.inl rfl,by have:=(XK.of_heap I).lt;simpa[World.setRow] using this⟩
    ·refine .inr ⟨g,cap,B,cs++D,G.drop D.length,by simp[LV.of],?_,ac C _ cs E L,by simpa using V,?_,by simp;omega⟩
     ·have:=setRow_heap w g _ (B++cs++D++G.drop D.length).toArray T _ I;rw[this];simp
     ·have:(xs.length+ys.length)*e.n<=cap*e.n:=xj _ V;rw[O8] at this;simp only[sM,Z2];omega
   ·
    have R:=cR L;have am:XK w g B.length cs:=by have:=(XK.of_heap I).sub;simpa using this
    have H:=run_append_grow (P:=F.P) w U ty T ti z (rC hU) (uM hI) hz ⟨g,B.length,none⟩ xs.length cap cs (by rw[ab];exact R) am.cell ⟨b,ae,none⟩ ys.length c D (by rw[ab];exact Q) R3 (by omega) (by omega) (growslice_fits (by omega) (by
     have:(xs.length+ys.length)*ti.bytes<=4294967296*4096:=aCu aa ah
     omega))
    have kg:=grownCap_ge w (xs.length+ys.length) cap T;refine fin _ _ (by rw[A];exact H) (w7.alloc _ _ _) (.inl ⟨_,_,_,rfl⟩) (fun X h=>?_) (fun C ρ' E=>?_)
    ·simp only[j1,E4] at h;subst h;exact⟨.inr (ZY _),by simp⟩
    ·refine .inr ⟨w.heap.size,grownCap w (xs.length+ys.length) cap T,[],cs++D,(Builtin.zeroCells z.cells (grownCap w (xs.length+ys.length) cap T - (xs.length+ys.length))).toList,by simp[LV.of],?_,ac C _ cs E L,by simpa using kg,?_,by simp;omega⟩
     ·rw[show w.heap.size=w.drew.heap.size from rfl,heap_alloc_new];have:cs.toArray++D.toArray++Builtin.zeroCells z.cells (grownCap w (xs.length+ys.length) cap T - (xs.length+ys.length))=
        ([]++((cs++D)++(Builtin.zeroCells z.cells (grownCap w (xs.length+ys.length) cap T - (xs.length+ys.length))).toList)).toArray:=by
       apply Array.ext';simp
      rw[this]
     ·rw[sM,R,Q,qm,<-O8,<-O8];exact xj _ (by omega)
end
end Go.Sw
namespace Go.Sw
open Go Go.RowKit
theorem Kq:∀(vs:List aAd) (k off:Nat) (cs:Array aAd),off+k+vs.length<=cs.size->
  ((vs.zipIdx k).foldl (fun cs (x:aAd×Nat)=>cs.setIfInBounds (off+x.2) x.1) cs).toList=cs.toList.take (off+k)++vs++cs.toList.drop (off+k+vs.length)
 | [],k,off,cs,_=>by simp
 |v::vs,k,off,cs,h=>by
  simp only[aCk,Z0];rw[Kq vs (k+1) off _ (by simp at h ⊢;omega)];have u:off+k<cs.toList.length:=by simp at h ⊢;omega
  simp only[Array.toList_setIfInBounds];have z:off+(k+1)=off+k+1:=by omega
  rw[z,List.take_set,List.drop_set_of_lt (by omega)];have A:(cs.toList.take (off+k+1)).set (off+k) v=cs.toList.take (off+k)++[v]:=by
   rw[List.take_succ_eq_append_getElem u,List.set_append_right _ _ (by rw[I8];omega)];have:off+k - (cs.toList.take (off+k)).length=0:=(by rw[I8];omega);rw[this];rfl
  rw[A];simp only[H6,H7,aDk];congr 3;omega
theorem Eo{place:Nat->Option (Nat×Nat)}{cells:Array aAd}{i off n:Nat}{v:aAd}{rest:List (Nat×aAd)}{a c e:List aAd}(hp:place i=some (off,n))(hn:v.cells.size=n)(hc:cells.toList=a++(c++e))(ha:a.length=off)(hl:c.length=n):
  Instr.fill place cells ((i,v)::rest)=Instr.fill place (a++(v.cells.toList++e)).toArray rest:=by
 have A:cells.size=a.length+(c.length+e.length):=by rw[<-ed,hc];simp
 have h:¬(v.cells.size≠n || decide (off+v.cells.size>cells.size))=true:=by
  simp only[aCi,aC3,not_or];omega
 simp only[Instr.fill,hp];rw[XV h];congr 1;apply Array.ext';have:=Kq v.cells.toList 0 off cells (by simp;omega);simp only[aDh] at this;rw[<-aEj,Array.toList_zipIdx,this,hc];have u:(a++(c++e)).take off=a:=by rw[<-ha];exact aCo
 have z:(a++(c++e)).drop (off+v.cells.toList.length)=e:=by
  rw[<-H7];have:off+v.cells.toList.length=(a++c).length:=by simp;omega
  rw[this];exact tv
 rw[u,z];simp
section
variable {F:YP}{O:AS}{s:Slot}{d:Option Tmp}{ty:aAb}{p:String}{af:Array Edge}{gd:Option (Nat×Bool)}{x y:aAc}
def Sl(l:List Slot)(p q:Nat)(new:List Slot):List Slot:=l.take p++(new++l.drop (p+q))
def HH(l:List Slot):Nat:=(l.map Slot.sz).sum
theorem Lw{ρ:Nat->LV}{S:Nat->Prop}{w:aAa}:∀{l:List Slot} {cs:List aAd},bO ρ S w l cs->cs.length=HH l:=by
 intro l
 induction l with
 |nil=>intro cs h;simp only[bO] at h;simp[h,HH]
 |cons t l A=>
  intro cs h;simp only[bO] at h;obtain⟨c,d,rfl,u,z⟩:=h;rw[sM,nS u,A z];simp[HH]
theorem DO{ρ:Nat->LV}{S:Nat->Prop}{w:aAa}:∀{l:List Slot} {cs:List aAd},l.all Slot.plain=true->bO ρ S w l cs->∀u∈cs,u.oneCell'=true:=by
 intro l
 induction l with
 |nil=>intro cs _ h;simp only[bO] at h;simp[h]
 |cons t l D=>
  intro cs A h u z;simp only[bO] at h;obtain⟨c,d,rfl,B,C⟩:=h;simp only[List.all_cons,K0] at A;rcases S9.1 z with z | z
  ·exact Hp B u z (fun e=>by subst e;cases A.1)
  ·exact D A.2 C u z
theorem Mw{ρ:Nat->LV}{S:Nat->Prop}{w:aAa}{l new:List Slot}{p q off n:Nat}{cs:List aAd}(h1:Nat.beq (HH (l.take p)) off=true)(h2:Nat.beq (HH ((l.drop p).take q)) n=true)(h:bO ρ S w l cs):
  ∃a c d,cs=a++(c++d)/\a.length=off/\c.length=n/\∀c',bO ρ S w new c'->bO ρ S w (Sl l p q new) (a++(c'++d)):=by
 replace h1:=D6 h1;replace h2:=D6 h2;rw[<-db p l,xT] at h;obtain⟨a,e,rfl,u,z⟩:=h;rw[<-db q (l.drop p),xT,aDz] at z;obtain⟨c,d,rfl,B,C⟩:=z;refine⟨a,c,d,rfl,by rw[Lw u,h1],by rw[Lw B,h2],fun c' A=>?_⟩;unfold Sl;rw[xT];exact⟨a,c'++d,rfl,u,xT.2 ⟨c',d,rfl,A,C⟩⟩
inductive R9 (O:AS) (pl:Array (Nat×Nat)):List Slot->List (Nat×aAc)->List Slot->Prop
 |nil {l:List Slot}:R9 O pl l [] l
 |cons {l l':List Slot} {i off n:Nat} {x:aAc} {s s0:Slot} {rest:List (Nat×aAc)}:pl[i]? =some (off,n)->Arg O false x s->s.plain=true->s.sz=n->nP l off=some s0->s0.sz=n->R9 O pl (oC l off s) rest l'->R9 O pl l ((i,x)::rest) l'
 |agg {l l' new:List Slot} {i off n:Nat} {x:aAc} {rest:List (Nat×aAc)} (p q:Nat):pl[i]? =some (off,n)->dH O.g x=some (.agg new)->new.all Slot.plain=true->Nat.beq (HH new) n=true->Nat.beq (HH (l.take p)) off=true->Nat.beq (HH ((l.drop p).take q)) n=true->R9 O pl (Sl l p q new) rest l'->R9 O pl l ((i,x)::rest) l'
theorem R9.spec{pl:Array (Nat×Nat)}{l l':List Slot}{ps:List (Nat×aAc)}(h:R9 O pl l ps l'){ρ S a w}{ys:Array aAc}(eu:∀x∈ps.map (·.2),x∈ys)(K:B3 O ys ρ S a w):
  ∀cs:List aAd,bO ρ S w l cs->∃ds:List aAd,Instr.fill (pl[·]?) cs.toArray (ps.map fun q=>(q.1,a.eval q.2))=some ds.toArray/\bO ρ S w l' ds:=by
 induction h with
 |nil=>intro cs h;exact⟨cs,rfl,h⟩
 |cons L M U A N P _ Q=>
  rename_i l l' i X n x s s0 aa _;intro cs C
  have z:=M ρ S a w ⟨K.low,fun y u s h=>K.slot y (eu y (by
   have:y=x:=by simpa using u
   subst this;simp)) s h,fun y u s h=>K.G6 y (eu y (by
    have:y=x:=by simpa using u
    subst this;simp)) s h⟩
  simp only[V6,r5] at z;have B:=rA U z;obtain⟨D,c,E,rfl,F,k1,G⟩:=vK N C;obtain⟨ds,H,I⟩:=Q (fun y u=>eu y (by simp only[L4,B1];exact .inr u)) _ (G s _ B);refine⟨ds,?_,I⟩;rw[L4,Eo (a:=D) (c:=c) (e:=E) L (by have:=nS B;simp only[ed] at this;rw[this];exact A) (by simp) F (by rw[nS k1];exact P)];exact H
 |agg p q L M U A N P _ Q=>
  rename_i l l' ab i X n x aa _;intro cs C;replace A:=D6 A;have z:=K.slot x (eu x (by simp)) _ M;simp only[Slot.ok] at z;obtain⟨c',R,T⟩:=z;obtain⟨D,c,E,rfl,F,B,G⟩:=Mw N P C;obtain⟨ds,H,I⟩:=Q (fun y u=>eu y (by simp only[L4,B1];exact .inr u)) _ (G c' T);refine⟨ds,?_,I⟩;have V:(a.eval x).cells.toList=c':=by rw[R];simp[Value.cells]
  rw[L4,Eo (a:=D) (c:=c) (e:=E) L (by rw[R];simp[Value.cells,Lw T,A]) (by simp) F B,V];exact H
theorem bQ{T:aAb}{pl:Array (Nat×Nat)}{zs:List aAd}{ps:List (Nat×aAc)}{l l':List Slot}(hB:∀parts,F.P.built T parts=Instr.fill (pl[·]?) zs.toArray parts)(hz:Zr zs l)(hp:R9 O pl l ps l'):
  JO F ⟨d,.build T ps.toArray,ty,p,af,gd⟩ O (.agg l') []:=by
 intro ρ S a w K;obtain⟨h,z,A⟩:=hp.spec (ys:=(Op.build T ps.toArray).operands) (by intro x u;simp[Op.operands] at u ⊢;exact u) K zs (hz ρ S w);refine XC.value (w':=w) (v:= .agg h.toArray) ?_ (ZC.same (by simp only[Slot.ok];exact⟨h,rfl,A⟩));have:=run_build (P:=F.P) w T (ps.map fun q=>(q.1,a.eval q.2)).toArray h.toArray (by rw[hB];exact z);simp only[execOp,aDc];simp[this]
inductive H4 (O:AS) {α:Type} (e:Wr α):Nat->List (Nat×aAc)->List α->Prop
 |nil {k:Nat}:H4 O e k [] []
 |cons {k:Nat} {x:aAc} {z:α} {ps:List (Nat×aAc)} {zs:List α}:Arg O false x (.v e z)->H4 O e (k+1) ps zs->H4 O e k ((k,x)::ps) (z::zs)
theorem H4.spec{α:Type}{e:Wr α}{k:Nat}{ps:List (Nat×aAc)}{zs:List α}(h:H4 O e k ps zs){ρ S a w}{ys:Array aAc}(eu:∀x∈ps.map (·.2),x∈ys)(K:B3 O ys ρ S a w):
  ∀pre rest:List aAd,pre.length=k*e.n->rest.length=ps.length*e.n->∃ds:List aAd,Instr.fill (fun i=>some (i*e.n,e.n)) (pre++rest).toArray (ps.map fun q=>(q.1,a.eval q.2))=some (pre++ds).toArray/\e.j7 zs S w ds:=by
 induction h with
 |nil=>intro pre rest D E;simp at E;subst E;exact⟨[],rfl,rfl⟩
 |cons D _ L=>
  rename_i k x z ps zs _;intro pre rest F G
  have C:=D ρ S a w ⟨K.low,fun y u s h=>K.slot y (eu y (by
   have:y=x:=by simpa using u
   subst this;simp)) s h,fun y u s h=>K.G6 y (eu y (by
    have:y=x:=by simpa using u
    subst this;simp)) s h⟩
  simp only[V6,r5] at C;have A:=rA (s:= .v e z) rfl C;simp only[Slot.j9] at A;have B:=e.len A;simp only[H6,O8,tr] at G;obtain⟨ds,H,I⟩:=L (fun y u=>eu y (by simp only[L4,B1];exact .inr u)) (pre++(a.eval x).cells.toList) (rest.drop e.n) (by rw[sM,F,B,O8,tr]) (by rw[Z2];omega);refine⟨(a.eval x).cells.toList++ds,?_,⟨_,_,rfl,A,I⟩⟩;rw[L4,Eo (a:=pre) (c:=rest.take e.n) (e:=rest.drop e.n) rfl (by simp only[ed] at B;exact B) (by simp) F (by rw[I8];omega)];simpa[H7] using H
theorem MP{P:aAe}{w:aAa}{U E:aAb}{n len:Nat}{z:aAd}{parts:Array (Nat×aAd)}{R:List aAd->Prop}(hU:∀w,(underlying U).run P w= .ok (.slice E) w)(hS:∀w,(sizeOf E).run P w= .ok n w)(hz:∀w,(zeroValue E).run P w= .ok z w)
  (hle:len*n<=16777216) (hf:∀rest:List aAd,rest.length=len*n->∃ds:List aAd,Instr.fill (fun i=>some (i*n,n)) rest.toArray parts.toList=some ds.toArray/\R ds):
  ∃ds:List aAd,R ds/\(Instr.buildSlice U len parts).run P w= .ok (.slice (some ⟨w.heap.size,0,none⟩) len len) (w.alloc (.cells ds.toArray E)):=by
 have C:¬(16777216<len*n):=by omega
 have D:∀A:Array aAd,∃ds:List aAd,R ds/\Instr.fill (fun i=>some (i*n,n)) ((Array.range (len*n)).map (A[·% A.size]!)) parts.toList=some ds.toArray:=by
  intro A;obtain⟨ds,B,h⟩:=hf ((Array.range (len*n)).map (A[·% A.size]!)).toList (by simp);exact⟨ds,h,by rw[<-B]⟩
 obtain⟨ds,B,h⟩:=D (if len*n=0 then #[] else z.cells);refine⟨ds,B,?_⟩;unfold Instr.buildSlice;simp only[Sem.run_bind,hU,hS,Result.andThen_ok];rw[XV (by simpa using C)];by_cases u:len*n=0
 ·rw[YC u] at h;simp only[Sem.run_bind,Sem.run_pure,Result.andThen_ok,u,r7];rw[u] at h;rw[h];simp[newRow]
 ·rw[XV u] at h;simp only[Sem.run_bind,Sem.run_pure,Result.andThen_ok,u,r5,hz];rw[h];simp[newRow]
theorem Kr(w:aAa)(ds:List aAd)(E:aAb):XK (w.alloc (.cells ds.toArray E)) w.heap.size 0 ds:=XK.of_heap (T:=E) (fr:=(0,0)) (heap_alloc_new _ _)
theorem Sn{α:Type}{e:Wr α}{U E:aAb}{len:Nat}{z:aAd}{ps:List (Nat×aAc)}{zs:List α}{ρ S a w}(hU:∀w,(underlying U).run F.P w= .ok (.slice E) w)(hS:∀w,(sizeOf E).run F.P w= .ok e.n w)(hz:∀w,(zeroValue E).run F.P w= .ok z w)
  (hle:Nat.ble (len*e.n) 16777216=true) (hl:ps.length=len) (he:H4 O e 0 ps zs) (K:B3 O (Op.buildSlice U len ps.toArray).operands ρ S a w):
  ∃ds:List aAd,e.j7 zs S w ds/\(execOp a.eval ⟨d,.buildSlice U len ps.toArray,ty,p,af,gd⟩).run F.P w= .ok (.value (.slice (some ⟨w.heap.size,0,none⟩) len len)) (w.alloc (.cells ds.toArray E)):=by
 obtain⟨ds,h,u⟩:=MP (P:=F.P) (w:=w) (U:=U) (len:=len) (parts:=(ps.map fun q=>(q.1,a.eval q.2)).toArray) (R:=fun ds=>e.j7 zs S w ds) hU hS hz (E7 hle) (fun B C=>by
  obtain⟨ds,h,u⟩:=he.spec (ys:=(Op.buildSlice U len ps.toArray).operands) (by intro x A;simp[Op.operands] at A ⊢;exact A) K [] B (by simp) (by rw[hl];exact C)
  exact⟨ds,by simpa using h,u⟩)
 refine⟨ds,h,?_⟩;simp only[execOp,aDc];simp[u]
theorem dN{α:Type}{e:Wr α}{U E:aAb}{len:Nat}{z:aAd}{ps:List (Nat×aAc)}{zs:List α}(hU:∀w,(underlying U).run F.P w= .ok (.slice E) w)(hS:∀w,(sizeOf E).run F.P w= .ok e.n w)(hz:∀w,(zeroValue E).run F.P w= .ok z w)
  (hle:Nat.ble (len*e.n) 16777216=true) (hl:ps.length=len) (ae:zs.length=len) (hb:Nat.ble len 16777216=true) (he:H4 O e 0 ps zs):JO F ⟨d,.buildSlice U len ps.toArray,ty,p,af,gd⟩ O (.v (Wr.sl e) zs) []:=by
 intro ρ S a w K;obtain⟨u,C,D⟩:=Sn (d:=d) (ty:=ty) (p:=p) (af:=af) (gd:=gd) hU hS hz hle hl he K;have A:=lM w (.cells u.toArray E);have B:Ext S (Un S ρ []) w (w.alloc (.cells u.toArray E)):=rQ A fun k _ h=>by
  rcases h with h |⟨i,G,h,_⟩
  ·exact h
  ·simp[aY] at h
 refine XC.value D ⟨ρ,fun _ _=>rfl,A,?_,⟨fun _ _ h=>by simp[aY] at h,fun _ _ _ h=>by simp[aY] at h,fun _ _ _ _ _ h=>by simp[aY] at h⟩⟩;simp only[Slot.ok];have hb:=E7 hb;refine sP.2 ⟨_,len,by rw[ae],⟨by omega,by omega⟩,.inr ⟨w.heap.size,0,u,rfl,by simp,?_,Kr w u E,Wr.XF C B⟩⟩;rintro (h |⟨i,G,h,_⟩)
 ·have:=K.low _ h;omega
 ·simp[aY] at h
theorem rS{α:Type}{e:Wr α}{U E:aAb}{len:Nat}{z:aAd}{ps:List (Nat×aAc)}{zs:List α}(i:Nat)(hU:∀w,(underlying U).run F.P w= .ok (.slice E) w)(hS:∀w,(sizeOf E).run F.P w= .ok e.n w)(hz:∀w,(zeroValue E).run F.P w= .ok z w)
  (hle:Nat.ble (len*e.n) 16777216=true) (hl:ps.length=len) (ae:zs.length=len) (hb:Nat.ble len 16777216=true) (he:H4 O e 0 ps zs):JO F ⟨d,.buildSlice U len ps.toArray,ty,p,af,gd⟩ O (.ref i) [(i,.arr E e zs)]:=by
 intro ρ S a w K;obtain⟨B,u,C⟩:=Sn (d:=d) (ty:=ty) (p:=p) (af:=af) (gd:=gd) hU hS hz hle hl he K;have hb:=E7 hb;refine XC.value C (zX (.slice (some ⟨w.heap.size,0,none⟩) len len) (lM _ _) rfl ?_ ?_ ?_)
 ·intro b h;simp only[j1,E4] at h;subst h;exact⟨ZY _,by simp⟩
 ·intro A ρ' h _;refine .inr ⟨w.heap.size,len,[],B,[],by rw[ae];rfl,?_,Wr.XF u (Sg (lM _ _) h),by omega,?_,by omega⟩
  ·rw[heap_alloc_new];simp
  ·have:=cR u;rw[ae] at this;simp[this]
 ·intro A ρ' _ hi _;simp only[Slot.ok];exact⟨by rw[hi];exact .inl ⟨_,_,_,rfl⟩,hi.symm⟩
def mk{α:Type}(n:Int)(z:α):Option (List α):=if 0<=n/\n<=4294967296 then some (List.replicate n.toNat z) else none
theorem BD{α:Type}{n:Int}{z:α}{zs:List α}(h:mk n z=some zs):0<=n/\n<=4294967296/\zs=List.replicate n.toNat z:=by
 unfold mk at h;split at h
 ·rename_i u;exact⟨u.1,u.2,by cases h;rfl⟩
 ·cases h
theorem HI{α:Type}{e:Wr α}{z:α}{zc:Array aAd}(hz:∀S w,e.ok z S w zc.toList)(m:Nat)(S:Nat->Prop)(w:aAa):e.j7 (List.replicate m z) S w (madeCells zc (m*e.n)).toList:=by
 have E:zc.size=e.n:=by have:=e.len (hz S w);simpa using this
 have C:(madeCells zc (m*e.n)).toList=(List.replicate m zc.toList).flatten:=by
  induction m with
  |zero=>simp[madeCells,Array.range_zero']
  |succ m B=>
   rw[List.replicate_succ',List.flatten_append,<-B];apply aCc;intro i;simp only[madeCells,Array.toList_map,List.getElem?_append,oe,oc,ed,Array.size_range,Array.getElem?_toList];by_cases D:i<m*e.n
   ·have h:i<(m+1)*e.n:=(by rw[O8];omega);simp[D,h]
   ·rw[XV D];by_cases h:i<(m+1)*e.n
    ·have u:i - m*e.n<zc.size:=(by rw[O8,tr] at h;omega);have A:i % zc.size=i - m*e.n:=by
      have G:zc.size*m=m*e.n:=(by rw[E,aEf e.n m]);have F:i % zc.size=((i - m*e.n)+zc.size*m) % zc.size:=(by congr 1;omega);rw[F,Nat.add_mul_mod_self_left,V8 u]
     simp[h,A,u]
    ·have u:zc.size<=i - m*e.n:=(by rw[O8,tr] at h;omega);have A:(Array.range ((m+1)*e.n))[i]? =none:=(by simp;omega);simp[A,u]
 rw[C];clear C
 induction m with
 |zero=>rfl
 |succ m B=>rw[aDt,aDt,aC2];exact⟨_,_,rfl,hz S w,B⟩
theorem QO{α:Type}{e:Wr α}{z:α}{zs:List α}{U E:aAb}{ti:TypeInfo}{zv:aAd}{k k':aAg}{n:Int}{ρ S a w}(hm:mk n z=some zs)(hx:dH O.g x=some (.v (Wr.int k) n))(hy:dH O.g y=some (.v (Wr.int k') n))(hU:∀w,(underlying U).run F.P w= .ok (.slice E) w)
  (hI:∀w,(typeInfo E).run F.P w= .ok ti w) (hS:∀w,(sizeOf E).run F.P w= .ok e.n w) (hz:ti.zero=some zv) (ah:Nat.ble ti.bytes 4096=true) (K:B3 O (Op.makeSlice U x y).operands ρ S a w):
  (execOp a.eval ⟨d,.makeSlice U x y,ty,p,af,gd⟩).run F.P w= .ok (.value (.slice (some ⟨w.heap.size,0,none⟩) n.toNat n.toNat)) (w.alloc (.cells (madeCells zv.cells (n.toNat*e.n)).toList.toArray E)):=by
 obtain⟨h,A,rfl⟩:=BD hm;have hx:=(fY K (x:=x) (by simp[Op.operands]) hx).1;have hy:=(fY K (x:=y) (by simp[Op.operands]) hy).1;have ah:=E7 ah;have u:=Lu hI hS
 have:=run_make (P:=F.P) w U E ti zv (rC hU) (uM hI) hz k k' n n h (aDo _) (by
  have:(ti.bytes:Int)*n<=4096*4294967296:=Int.mul_le_mul (by omega) A h (by omega)
  omega) (by omega)
 rw[u] at this;simp[execOp,hx,hy,this]
theorem Yk{α:Type}{e:Wr α}{z:α}{zs:List α}{U E:aAb}{ti:TypeInfo}{zv:aAd}{k k':aAg}{n:Int}(i:Nat)(hm:Sw.mk n z=some zs)(hx:dH O.g x=some (.v (Wr.int k) n))(hy:dH O.g y=some (.v (Wr.int k') n))(hU:∀w,(underlying U).run F.P w= .ok (.slice E) w)
  (hI:∀w,(typeInfo E).run F.P w= .ok ti w) (hS:∀w,(sizeOf E).run F.P w= .ok e.n w) (hz:ti.zero=some zv) (ah:Nat.ble ti.bytes 4096=true) (jd:∀S w,e.ok z S w zv.cells.toList):JO F ⟨d,.makeSlice U x y,ty,p,af,gd⟩ O (.ref i) [(i,.arr E e zs)]:=by
 intro ρ S a w K;have u:=QO (d:=d) (ty:=ty) (p:=p) (af:=af) (gd:=gd) hm hx hy hU hI hS hz ah K;obtain⟨B,C,rfl⟩:=BD hm;refine XC.value u (zX (.slice (some ⟨w.heap.size,0,none⟩) n.toNat n.toNat) (lM _ _) rfl ?_ ?_ ?_)
 ·intro b h;simp only[j1,E4] at h;subst h;exact⟨ZY _,by simp⟩
 ·intro A ρ' h _;refine .inr ⟨w.heap.size,n.toNat,[],(madeCells zv.cells (n.toNat*e.n)).toList,[],by simp[LV.of],?_,HI jd _ _ _,by simp,?_,by simp;omega⟩
  ·rw[heap_alloc_new];simp
  ·simp[size_madeCells]
 ·intro A ρ' _ hi _;simp only[Slot.ok];exact⟨by rw[hi];exact .inl ⟨_,_,_,rfl⟩,hi.symm⟩
end
end Go.Sw
namespace Go.Sw
open Go Go.RowKit
def ao{α:Type}(n:Nat)(P:aAe)(T:aAb)(e:Wr α):Prop:=∀d,n<=d->∀(w:aAa) (S S':Nat->Prop) (w1 w2:aAa) (x y:α) (cs ds:List aAd),e.ok x S w1 cs->e.ok y S' w2 ds->
 ∃r,(Op.equalIn d T (e.pk cs) (e.pk ds)).run P w= .ok r w/\(r=true↔x=y)
theorem ao.int{P:aAe}{T:aAb}{k k':aAg}(h:P.underlying T=some (.int k')):ao 1 P T (Wr.int k):=by
 intro d A w S B C D x y E F u z;obtain⟨d,rfl⟩:∃d',d=d'+1:=⟨d - 1,by omega⟩;rw[u.1,z.1];exact⟨x==y,run_equalIn_int w d T k k' x y h,by simp⟩
theorem Yl{α:Type}{P:aAe}{e:Wr α}{x:α}{S w w0}{a c b:List aAd}{T:aAb}{off:Nat}(ho:e.ok x S w0 c)(ha:a.length=off)(hA:∀w,(isAgg T).run P w= .ok e.agg w)(hS:∀w,(sizeOf T).run P w= .ok e.n w):
  (part T (a++(c++b)).toArray off).run P w= .ok (e.pk c) w:=by
 have h:=e.len ho;unfold part;simp only[Sem.run_bind,hA,Result.andThen_ok];cases L7:e.agg with
 |true=>
  simp only[r7,Sem.run_bind,hS,Result.andThen_ok,Sem.run_pure,Wr.pk,L7];congr 2;simp only[List.extract_toArray,List.extract_eq_take_drop];rw[<-ha,tv];have:a.length+e.n - a.length=c.length:=by omega
  rw[this,aCo]
 |false=>
  rw[e.one L7] at h;obtain⟨v,rfl⟩:=aCf.1 h;have:(a++([v]++b)).toArray[off]? =some v:=by simp[<-ha]
  simp only[V6,r5,this,Sem.run_pure,Wr.pk,L7];rfl
theorem Qp{α:Type}{n d:Nat}{P:aAe}{E:aAb}{e:Wr α}(hd:n<=d)(he:ao n P E e)(hA:∀w,(isAgg E).run P w= .ok e.agg w)(hS:∀w,(sizeOf E).run P w= .ok e.n w){S S':Nat->Prop}{w1 w2:aAa}:
  ∀(xs ys:List α) (k:Nat) (pre qj cs ds:List aAd) (w:aAa),xs.length=ys.length->pre.length=k*e.n->qj.length=k*e.n->e.j7 xs S w1 cs->e.j7 ys S' w2 ds->
   ∃r,(Op.eqItems d E e.n (pre++cs).toArray (qj++ds).toArray (List.range' k xs.length)).run P w= .ok r w/\(r=true↔xs=ys)
 | [],ys,k,pre,qj,cs,ds,w,u,_,_,_,_=>by
  have:ys=[]:=kt (by simpa using u.symm);subst this;exact⟨true,by simp[Op.eqItems],by simp⟩
 |x::xs,[],k,pre,qj,cs,ds,w,u,_,_,_,_=>by simp at u
 |x::xs,y::ys,k,pre,qj,cs,ds,w,u,C,D,⟨c,K,L,z,M⟩,⟨q,N,O,A,Q⟩=>by
  subst L;subst O;obtain⟨r,F,B⟩:=he d hd w S S' w1 w2 x y c q z A;obtain⟨G,H,I⟩:=Qp hd he hA hS xs ys (k+1) (pre++c) (qj++q) K N w (by simpa using u) (by rw[sM,C,e.len z,O8,tr]) (by rw[sM,D,e.len A,O8,tr]) M Q;simp only[H6,List.range'_succ,Op.eqItems,Sem.run_bind,Yl (P:=P) (w:=w) z C hA hS,Yl (P:=P) (w:=w) A D hA hS,Result.andThen_ok,F];cases r
  ·refine⟨false,by simp,?_⟩;simp only[V6,false_iff,aC0,not_and];intro h;exact absurd (B.2 h) (by simp)
  ·refine⟨G,by simpa using H,?_⟩;rw[I];simp[B.1 rfl]
theorem ao.arr{α:Type}{n m:Nat}{P:aAe}{T E:aAb}{e:Wr α}(hT:∀w,(underlying T).run P w= .ok (.array m E) w)(hI:∀w,(sizeOf E).run P w= .ok e.n w)(hA:∀w,(isAgg E).run P w= .ok e.agg w)(he:ao n P E e):ao (n+1) P T (Wr.arr m e):=by
 intro d H w S I K L x y u z h A;obtain⟨d,rfl⟩:∃d',d=d'+1:=⟨d - 1,by omega⟩;obtain⟨i,B,D⟩:∃i,P.info? E=some i/\i.size=e.n:=by
  have:=hI default;unfold sizeOf typeInfo at this;simp only[Sem.run_bind,run_program,Result.andThen_ok] at this;cases hq:P.info? E with
  |none=>rw[hq] at this;simp at this
  |some i=>rw[hq] at this;simp at this;exact⟨i,rfl,this⟩
 have C:P.cellsOf E=e.n:=by unfold Program.cellsOf;rw[B];exact D
 obtain⟨r,F,G⟩:=Qp (d:=d) (by omega) he hA hI x y 0 [] [] u z w (by rw[h.1,A.1]) (by simp) (by simp) h.2 A.2;refine⟨r,?_,G⟩;have:=run_equalIn_array (w:=w) d u.toArray z.toArray (rC hT) B;simp only[Wr.pk,show (Wr.arr m e).agg=true from rfl,r7];rw[this,C,List.range_eq_range',<-h.1];simpa using F
section
variable {F:YP}{O:AS}{d:Option Tmp}{ty:aAb}{p:String}{af:Array Edge}{gd:Option (Nat×Bool)}{x y:aAc}
theorem BE{α:Type}[DecidableEq α]{n:Nat}{e:Wr α}{o:BinOp}{T T':aAb}{z z':α}{b:Bool}{ρ S a w}(ho:(o= .eql/\b=decide (z=z'))\/(o= .neq/\b= !decide (z=z')))(he:ao n F.P T e)(hn:Nat.ble n 10000=true)(ha:e.agg=true)(hg:F.P.eqGuardType F.P.depth T=false)
  (hx:dH O.g x=some (.v e z)) (hy:dH O.g y=some (.v e z')) (K:B3 O (Op.binOp o T x y T').operands ρ S a w):(execOp a.eval ⟨d,.binOp o T x y T',ty,p,af,gd⟩).run F.P w= .ok (.value (.bool b)) w:=by
 have u:=K.slot x (by simp[Op.operands]) _ hx;have A:=K.slot y (by simp[Op.operands]) _ hy;simp only[Slot.ok] at u A;obtain⟨H,I,B⟩:=u;obtain⟨L,M,C⟩:=A;obtain⟨r,D,E⟩:=he 10000 (E7 hn) w S S w w z z' H L I M;have G:r=decide (z=z'):=by
  cases r
  ·symm;simp;intro h;exact absurd (E.2 h) (by simp)
  ·symm;simp;exact E.1 rfl
 simp only[Wr.pk,ha,r7] at B C D;refine Yj (r:=r) (by rw[G];exact ho) B C (by intros;simp) (by intros;simp) (by intros;simp) (by intros;simp) ?_ D;exact run_eqGuard_agg (w:=w) o T x y _ _ hg
theorem Ym{α:Type}[DecidableEq α]{n:Nat}{e:Wr α}{T T':aAb}{z z':α}(he:ao n F.P T e)(hn:Nat.ble n 10000=true)(ha:e.agg=true)(hg:F.P.eqGuardType F.P.depth T=false)
  (hx:dH O.g x=some (.v e z)) (hy:dH O.g y=some (.v e z')):JO F ⟨d,.binOp .eql T x y T',ty,p,af,gd⟩ O (.v Wr.bool (decide (z=z'))) []:=
 fun ρ S _ w K=>XC.value (w':=w) (BE (.inl ⟨rfl,rfl⟩) he hn ha hg hx hy K) (ZC.same (nR _ ρ S w))
theorem So{α:Type}[DecidableEq α]{n:Nat}{e:Wr α}{T T':aAb}{z z':α}(he:ao n F.P T e)(hn:Nat.ble n 10000=true)(ha:e.agg=true)(hg:F.P.eqGuardType F.P.depth T=false)
  (hx:dH O.g x=some (.v e z)) (hy:dH O.g y=some (.v e z')):JO F ⟨d,.binOp .neq T x y T',ty,p,af,gd⟩ O (.v Wr.bool (!decide (z=z'))) []:=
 fun ρ S _ w K=>XC.value (w':=w) (BE (.inr ⟨rfl,rfl⟩) he hn ha hg hx hy K) (ZC.same (nR _ ρ S w))
end
end Go.Sw
namespace Go.Sw
open Go Go.RowKit
def fL:Nat:=1125899906842624
inductive Ex (α β:Type) where
 | XT (x:α)
 |ret (r:β)
def lp{α β γ:Type}(step:α->Option (Step α (Ex β γ)))(x:α)(k:β->Option γ):Option γ:=
 match loop step fL x with
 |none=>none
 |some (.XT y)=>k y
 |some (.ret z)=>some z
def jp{β γ:Type}(k:β->Option γ)(body:(β->Option γ)->Option γ):Option γ:=body k
theorem cF{α β γ:Type}{step:α->Option (Step α (Ex β γ))}{x:α}{k:β->Option γ}{r:γ}(h:lp step x k=some r):
  ∃o,loop step fL x=some o/\(∀y,o= .XT y->k y=some r)/\(∀z,o= .ret z->z=r):=by
 unfold lp at h;cases hl:loop step fL x with
 |none=>rw[hl] at h;cases h
 |some o=>
  rw[hl] at h;refine⟨o,rfl,?_,?_⟩
  ·rintro y rfl;exact h
  ·rintro z rfl;exact pT h
theorem fE{β γ:Type}{k:β->Option γ}{body:(β->Option γ)->Option γ}{r:γ}(h:jp k body=some r):∃K,K=k/\body K=some r:=⟨k,rfl,h⟩
theorem iJ{α:Type}{c:Bool}{x y:Option α}{r:α}(hc:c=true)(h:(bif c then x else y)=some r):x=some r:=by subst hc;exact h
theorem iK{α:Type}{c:Bool}{x y:Option α}{r:α}(hc:c=false)(h:(bif c then x else y)=some r):y=some r:=by subst hc;exact h
theorem aA{α β:Type}{x:Option α}{f:α->Option β}{r:β}(h:x.bind f=some r):∃a,x=some a/\f a=some r:=Option.bind_eq_some_iff.1 h
def rn:List (Nat×Nat)->Nat->Nat
 | [],i=>i
 | (a,b)::r,i=>bif Nat.beq a i then b else rn r i
section
variable {F:YP}{cs:List aAj}{O O':AS}{Q:aAl->aAm->aAa->Prop}{α β γ:Type}
theorem vX{c:Tmp}{x y:aAj}{b:Bool}(hb:lk O.g c=some (.v Wr.bool b))(hc:b=true)(ht:W F (x::cs) O Q):W F (.cond (.tmp c) x y::cs) O Q:=by
 subst hc;exact Gk hb (fun _=>ht) (fun h=>by cases h)
theorem Bg{c:Tmp}{x y:aAj}{b:Bool}(hb:lk O.g c=some (.v Wr.bool b))(hc:b=false)(ht:W F (y::cs) O Q):W F (.cond (.tmp c) x y::cs) O Q:=by
 subst hc;exact Gk hb (fun h=>by cases h) (fun _=>ht)
def LB(F:YP)(id:Nat)(σs:α->AS)(σx:β->AS)(o:Ex β γ)(Q:aAl->aAm->aAa->Prop):Step α (Ex β γ)->aAl->aAm->aAa->Prop
 | .next y,.normal,a,w=>St F (σs y) a w
 | .next _,_,_,_=>False
 | .done (.XT x),.exit i,a,w=>i=id/\(o= .XT x->St F (σx x) a w)
 | .done (.XT _),_,_,_=>False
 | .done (.ret _),.normal,_,_=>False
 | .done (.ret z),.exit i,a,w=>i≠id/\(o= .ret z->Q (.exit i) a w)
 | .done (.ret z),e,a,w=>o= .ret z->Q e a w
theorem jD{id:Nat}{body:aAj}{σs:α->AS}{step:α->Option (Step α (Ex β γ))}{x:α}{o:Ex β γ}(σx:β->AS)(hm:Sw.loop step fL x=some o)(h0:Sub F O (σs x))
  (hk:∀y,o= .XT y->W F cs (σx y) Q) (h:∀y r,step y=some r->W F [body] (σs y) (LB F id σs σx o Q r)):W F (.block id (.loop body)::cs) O Q:=by
 refine bR (QJ (b:=o) hm h0 fun y r B a w C=>?_);refine wpIn_mono (h y r B a w C) ?_;intro e a w u;cases r with
 |next z=>cases e<;>simp only[LB,LQ,Exit.then,run] at u ⊢<;>exact u
 |done b=>
  cases b with
  | XT z=>
   cases e<;>simp only[LB,LQ,Exit.then,run] at u ⊢;intro A;obtain⟨rfl,u⟩:=u;simp only[Exit.inBlock,r7];exact hk z A.symm a w (u A.symm)
  |ret z=>
   cases e<;>simp only[LB,LQ,Exit.then,run] at u ⊢<;>intro A<;>first
    | (obtain⟨D,u⟩:=u;simp only[Exit.inBlock,XV D];exact u A.symm)
    |exact u A.symm
theorem cE{id:Nat}{σs:α->AS}{σx:β->AS}{o:Ex β γ}{y:α}(h:Sub F O (σs y)):W F [] O (LB F id σs σx o Q (.next y)):=fun a w u=>h a w u
theorem dK{id:Nat}{σs:α->AS}{σx:β->AS}{o:Ex β γ}{y:β}(h:Sub F O (σx y)):XQ F O (LB F id σs σx o Q (.done (.XT y))) (.exit id):=fun a w u=>⟨rfl,fun _=>h a w u⟩
theorem gD{id:Nat}{σs:α->AS}{σx:β->AS}{o:Ex β γ}{z:γ}(h:o= .ret z->XQ F O Q .ret):XQ F O (LB F id σs σx o Q (.done (.ret z))) .ret:=fun a w u A=>h A a w u
def JQ(F:YP)(σx:β->AS)(P:β->Prop)(Q:aAl->aAm->aAa->Prop):aAl->aAm->aAa->Prop
 | .normal,a,w=>∃x,P x/\St F (σx x) a w
 |e,a,w=>Q e a w
theorem sY{c:Tmp}{x y:aAj}{b:Bool}(σx:β->AS)(P:β->Prop)(hb:lk O.g c=some (.v Wr.bool b))(hk:∀x,P x->W F cs (σx x) Q)(ht:b=true->W F [x] O (JQ F σx P Q))(hf:b=false->W F [y] O (JQ F σx P Q)):W F (.cond (.tmp c) x y::cs) O Q:=by
 refine Gk hb (fun u a w A=>?_) (fun u a w A=>?_)
 ·refine wpIn_mono (ht u a w A) ?_;intro e a w h;cases e<;>simp only[Exit.then,run,JQ] at h ⊢<;>first | exact h | (obtain⟨z,B,C⟩:=h;exact hk z B a w C)
 ·refine wpIn_mono (hf u a w A) ?_;intro e a w h;cases e<;>simp only[Exit.then,run,JQ] at h ⊢<;>first | exact h | (obtain⟨z,B,C⟩:=h;exact hk z B a w C)
theorem bY{σx:β->AS}{P:β->Prop}{z:β}(hz:P z)(h:Sub F O (σx z)):W F [] O (JQ F σx P Q):=fun a w u=>⟨z,hz,h a w u⟩
theorem Hq{σx:β->AS}{P:β->Prop}(h:XQ F O Q .ret):XQ F O (JQ F σx P Q) .ret:=h
theorem J.fin{ops:Array aAi}(h:Sub F O O'):J F ops [] O O':=fun _ _ a w u z=>z a w (h a w u)
end
theorem dU{P:aAe}{N:Nat}{S:Nat->Prop}{w:aAa}:∀k,¬(YP.R ⟨P,N,S,w,fun _=>False,none,[]⟩ k):=fun _ h=>h
end Go.Sw
namespace Go.Sw
open Go Go.RowKit
section
variable {F:YP}{cs:List aAj}{O O':AS}{Q:aAl->aAm->aAa->Prop}{α β γ:Type}{ops:Array aAi}{os:List aAi}
theorem GK.met{g:List (Nat×Slot)}{o:aAi}{j:Nat}{want:Bool}(t:Tmp){x:Bool}(h:o.guard= .some (j,want))(ht:(ops[j]?).bind (·.dst)= .some t)
  (hx:lk g t= .some (.v Wr.bool x)) (hb:x=want):GK ops g o true:=GK.some t x true h ht hx (by subst hb;simp)
theorem GK.M5{g:List (Nat×Slot)}{o:aAi}{j:Nat}{want:Bool}(t:Tmp){x:Bool}(h:o.guard= .some (j,want))(ht:(ops[j]?).bind (·.dst)= .some t)
  (hx:lk g t= .some (.v Wr.bool x)) (hb:x= !want):GK ops g o false:=GK.some t x false h ht hx (by subst hb;simp)
theorem Jj{c:aAj}(h:W F cs O' Q->W F (c::cs) O Q)(k:W F cs O' Q):W F (c::cs) O Q:=h k
theorem cB{e:aAl}(h:Sub F O O')(k:XQ F O' Q e):XQ F O Q e:=fun a w u=>k a w (h a w u)
def BQ(F:YP)(id:Nat)(σx:β->AS)(P:β->Prop)(Q:aAl->aAm->aAa->Prop):aAl->aAm->aAa->Prop
 | .normal,a,w=>∃x,P x/\St F (σx x) a w
 | .exit i,a,w=>if i=id then∃x,P x/\St F (σx x) a w else Q (.exit i) a w
 |e,a,w=>Q e a w
theorem VB{id:Nat}{body:aAj}(σx:β->AS)(P:β->Prop)(hk:∀x,P x->W F cs (σx x) Q)(h:W F [body] O (BQ F id σx P Q)):W F (.block id body::cs) O Q:=by
 refine bR fun a w D=>wpIn_mono (h a w D) ?_;intro e a w u;cases e<;>simp only[Exit.then,run,BQ,Exit.inBlock] at u ⊢<;>first
  |exact u
  | (obtain⟨z,B,C⟩:=u;exact hk z B a w C)
  | (
    split at u
    ·rename_i A;rw[YC A];obtain⟨z,B,C⟩:=u;exact hk z B a w C
    ·rename_i A;rw[XV A];exact u)
theorem MQ{id:Nat}{σx:β->AS}{P:β->Prop}{z:β}(hz:P z)(h:Sub F O (σx z)):W F [] O (BQ F id σx P Q):=fun a w u=>⟨z,hz,h a w u⟩
theorem MR{id:Nat}{σx:β->AS}{P:β->Prop}{z:β}(hz:P z)(h:Sub F O (σx z)):XQ F O (BQ F id σx P Q) (.exit id):=fun a w u=>by
 simp only[BQ,r7];exact⟨z,hz,h a w u⟩
end
section
variable {F:YP}{O:AS}{pb:Option Nat}{s:Slot}{d:Option Tmp}{ty:aAb}{p:String}{af:Array Edge}{gd:Option (Nat×Bool)}{x y c:aAc}
theorem xW{b:Bool}(hb:b=true)(hc:dH O.g c=some (.v Wr.bool b))(hx:dH O.g x=some s):JO F ⟨d,.pick c x y,ty,p,af,gd⟩ O s []:=by subst hb;exact HA hc hx
theorem uN{b:Bool}(hb:b=false)(hc:dH O.g c=some (.v Wr.bool b))(hy:dH O.g y=some s):JO F ⟨d,.pick c x y,ty,p,af,gd⟩ O s []:=by subst hb;exact HB hc hy
def PU(k k':aAg):Bool:=decide (k'.min<=k.min) && decide (k.max<=k'.max)
theorem Bh{k:aAg}{n:Int}(h:Dh k n):k.wrap n=n:=by
 unfold Dh at h;cases k<;>simp[IntKind.min,IntKind.max,IntKind.signed,IntKind.bits] at h<;>simp[IntKind.wrap,IntKind.signed,IntKind.bits]<;>omega
theorem mR{A B:aAb}{da:TypeDesc}{k k':aAg}{n:Int}(ha:∀w,(underlying A).run F.P w= .ok da w)(hb:∀w,(underlying B).run F.P w= .ok (.int k') w)(hx:dH O.g x=some (.v (Wr.int k) n))(hw:PU k k'=true):
  JO F ⟨d,.convert A B x,ty,p,af,gd⟩ O (.v (Wr.int k') n) []:=by
 intro ρ S a w K;have u:=(fY K (x:=x) (by simp[Op.operands]) hx).2;have h:=AY (ty:=ty) (p:=p) (d:=d) (af:=af) (gd:=gd) ha hb hx ρ S a w K;have:k'.wrap n=n:=by
  refine Bh ?_;simp[PU] at hw;unfold Dh at*;omega
 rw[this] at h;exact h
def nz(n:Int):Option Unit:=if n=0 then none else some ()
theorem Er{n:Int}{u:Unit}(h:nz n=some u):n≠0:=by unfold nz at h;split at h<;>simp_all
def nn(n:Int):Option Unit:=if 0<=n then some () else none
theorem BF{n:Int}{u:Unit}(h:nn n=some u):0<=n:=by unfold nn at h;split at h<;>simp_all
theorem Yn{c:Nat}{ρ:Nat->LV}{a:aAm}{w:aAa}(hc:Core F O.d ρ w)(hs:∀t s,lk O.g t=some s->s.ok ρ (Un F.S0 ρ O.d) w (a.tmps.getD t undef)){i off:Nat}{T:aAb}{l:List Slot}(hx:lk O.g c=some (.ptr i off))(he:aY O.d i=some (.box T l pb)):
  ∃b cs,a.tmps.getD c undef= .pointer (some ⟨b,off,none⟩)/\w.heap[b]? =some (.cells cs.toArray T (0,0))/\bO ρ (Un F.S0 ρ O.d) w l cs:=by
 obtain⟨b,cs,_,h,u,z⟩:=zZ (x:= .tmp c) (xs:= #[.tmp c]) (cK hc hs #[.tmp c]) (by simp) hx he;exact⟨b,cs,h,u,z⟩
theorem aV{α:Type}{e:Wr α}{z:α}{T U:aAb}{l:List Slot}{i c:Nat}(hx:lk O.g c=some (.ptr i 0))(he:aY O.d i=some (.box T l pb))(hl:N3 l e z)
  (hA:∀w,(isAgg U).run F.P w= .ok e.agg w) (hS:∀w,(sizeOf U).run F.P w= .ok e.n w):RV F O (.cell c U) (.v e z):=by
 intro ρ a w hc hs;obtain⟨b,h,A,B,C⟩:=Yn hc hs hx he;have u:=(hl ρ _ w h).1 C;refine⟨e.pk h,?_,by simp only[Slot.ok];exact⟨h,u,rfl⟩⟩;have:=Gl (P:=F.P) (XK.of_heap B) u hA hS;simp[wW,A,asAddr,this]
theorem Gm{T U:aAb}{l:List Slot}{i c n:Nat}(hx:lk O.g c=some (.ptr i 0))(he:aY O.d i=some (.box T l pb))(hn:(l.map Slot.sz).sum=n)
  (hA:∀w,(isAgg U).run F.P w= .ok true w) (hS:∀w,(sizeOf U).run F.P w= .ok n w):RV F O (.cell c U) (.agg l):=by
 intro ρ a w hc hs;obtain⟨b,h,B,z,u⟩:=Yn hc hs hx he;have A:h.length=n:=by
  rw[<-hn];clear hn hS hx he z
  induction l generalizing h with
  |nil=>simp only[bO] at u;simp[u]
  |cons t l E=>
   simp only[bO] at u;obtain⟨c,d,rfl,C,D⟩:=u;rw[sM,nS C,E d D];simp
 refine⟨.agg h.toArray,?_,by simp only[Slot.ok];exact⟨h,rfl,u⟩⟩;have:(loadVar U ⟨b,0,none⟩).run F.P w= .ok (.agg h.toArray) w:=by
  unfold loadVar;simp only[Sem.run_bind,hA,Result.andThen_ok,r7,hS];rw[<-A,run_loadCells_list w _ h (XK.of_heap z).cell];simp
 simp[wW,B,asAddr,this]
theorem cO{T U:aAb}{l:List Slot}{i c:Nat}(hx:lk O.g c=some (.ptr i 0))(he:aY O.d i=some (.box T l pb))(ho:nP l 0=some s)
  (hA:∀w,(isAgg U).run F.P w= .ok s.ag w) (hS:∀w,(sizeOf U).run F.P w= .ok s.sz w):RV F O (.cell c U) s:=by
 intro ρ a w hc hs;obtain⟨b,H,B,C,D⟩:=Yn hc hs hx he;obtain⟨E,c',I,rfl,G,z,_⟩:=vK ho D;have h:XK w b E.length c':=by have:=(XK.of_heap C).sub;simpa using this
 have u:=nS z;refine⟨if s.ag then .agg c'.toArray else c'.headD undef,?_,BA z⟩;have:(loadVar U ⟨b,0,none⟩).run F.P w= .ok (if s.ag then .agg c'.toArray else c'.headD undef) w:=by
  rw[<-G];unfold loadVar;simp only[Sem.run_bind,hA,Result.andThen_ok];cases ha:s.ag with
  |true=>
   simp only[r7,Sem.run_bind,hS,Result.andThen_ok];rw[<-u,run_loadCells_list w _ c' h.cell];simp
  |false=>
   have A:c'.length=1:=by
    rw[u];cases s<;>simp only[Slot.ag,Slot.sz] at ha ⊢;exact Wr.one _ ha
   obtain⟨v,rfl⟩:=aCf.1 A;have:=h.cell 0 v rfl;simp[Addr.add] at this;simp[this]
 simp[wW,B,asAddr,this]
end
end Go.Sw
namespace Go.Sw
open Go Go.RowKit
def fR{α β:Type}[DecidableEq α]:List (α×β)->α->Option β
 | [],_=>none
 | (a,b)::m,k=>if a=k then some b else fR m k
def Hr{α β:Type}[DecidableEq α](m:List (α×β))(k:α)(v:β):Option (List (α×β)):=match fR m k with | none=>some (m++[(k,v)]) | some _=>none
theorem Qq{α β:Type}[DecidableEq α]{m m':List (α×β)}{k:α}{v:β}(h:Hr m k v=some m'):fR m k=none/\m'=m++[(k,v)]:=by
 unfold Hr at h;cases hm:fR m k with
 |none=>rw[hm] at h;exact⟨rfl,by simpa using h.symm⟩
 |some b=>rw[hm] at h;cases h
def B8{α:Type}(n:Nat)(P:aAe)(T:aAb)(e:Wr α):Prop:=∀d,n<=d->∀(em:Bool) (w:aAa) (S:Nat->Prop) (w1:aAa) (x:α) (cs:List aAd),e.ok x S w1 cs->(Instr.checkKey em d T (e.pk cs)).run P w= .ok () w
theorem B8.int{P:aAe}{T:aAb}{k k':aAg}(h:∀w,(underlying T).run P w= .ok (.int k') w):B8 1 P T (Wr.int k):=by
 intro d z A w S B x C u;obtain⟨d,rfl⟩:∃d',d=d'+1:=⟨d - 1,by omega⟩;rw[u.1];simp[Instr.checkKey,h,Wr.pk,Wr.int]
theorem Mx{α:Type}{n d:Nat}{P:aAe}{E:aAb}{e:Wr α}{em:Bool}(hd:n<=d)(he:B8 n P E e)(hA:∀w,(isAgg E).run P w= .ok e.agg w)(hS:∀w,(sizeOf E).run P w= .ok e.n w){S:Nat->Prop}{w1:aAa}:
  ∀(xs:List α) (k:Nat) (pre cs:List aAd) (w:aAa),pre.length=k*e.n->e.j7 xs S w1 cs->
   (forIn (List.range' k xs.length) PUnit.unit fun i (_:PUnit)=>do
    let s<-sizeOf E
    let v<-part E (pre++cs).toArray (i*s)
    Instr.checkKey em d E v
    pure (ForInStep.yield PUnit.unit):Sem PUnit).run P w= .ok () w
 | [],k,pre,cs,w,_,_=>by simp
 |x::xs,k,pre,cs,w,z,⟨c,A,C,h,D⟩=>by
  subst C;have u:=Mx (em:=em) hd he hA hS xs (k+1) (pre++c) A w (by rw[sM,z,e.len h,O8,tr]) D;have B:=Yl (P:=P) (w:=w) (b:=A) h z hA hS;rw[H7] at u;simp only[H6,List.range'_succ,List.forIn_cons,Sem.run_bind,hS,Result.andThen_ok,B,he d hd em w S w1 x c h];simpa using u
theorem B8.arr{α:Type}{n m:Nat}{P:aAe}{T E:aAb}{e:Wr α}(hT:∀w,(underlying T).run P w= .ok (.array m E) w)(hS:∀w,(sizeOf E).run P w= .ok e.n w)(hA:∀w,(isAgg E).run P w= .ok e.agg w)(he:B8 n P E e):B8 (n+1) P T (Wr.arr m e):=by
 intro d A em w S B x z u;obtain⟨d,rfl⟩:∃d',d=d'+1:=⟨d - 1,by omega⟩;have h:=Mx (em:=em) (d:=d) (by omega) he hA hS x 0 [] z w (by simp) u.2;rw[u.1] at h;simp only[Instr.checkKey,Sem.run_bind,hT,Result.andThen_ok,Wr.pk,Wr.arr,r7];simp[Std.Legacy.Range.forIn_eq_forIn_range',Std.Legacy.Range.size] at h ⊢;rw[h];rfl
theorem BG{α β:Type}[DecidableEq α]{n:Nat}{P:aAe}{T:aAb}{e:Wr α}{f:Wr β}(hn:n<=10000)(he:ao n P T e){S S':Nat->Prop}{w1 w2:aAa}{k:α}{cs:List aAd}(hk:e.ok k S' w2 cs)(w:aAa):
  ∀(m:List (α×β)) (es:List MapEntry) (i:Nat),Ye e f S w1 m es->∃r,(Instr.findAsking T (e.pk cs) es i).run P w= .ok r w/\(fR m k=none->r=none)/\(∀b,fR m k=some b->∃j v,r=some (j,v)/\f.val b S w1 v)
 | [],[],i,_=>⟨none,by simp[Instr.findAsking],fun _=>rfl,fun b h=>by simp[fR] at h⟩
 | (a,b)::m,x::xs,i,⟨⟨G,H,I⟩,K,L⟩=>by
  obtain⟨r,B,C⟩:=he 10000 hn w S' S w2 w1 k a cs G hk H;rw[<-I] at B;have z:(Op.equal T (e.pk cs) x.key).run P w= .ok r w:=B;cases r with
  |true=>
   have u:=C.1 rfl;refine⟨some (i,x.val),by simp[Instr.findAsking,z],fun h=>?_,fun A h=>?_⟩
   ·simp[fR,u] at h
   ·simp[fR,u] at h;subst h;exact⟨i,x.val,rfl,K⟩
  |false=>
   have u:¬a=k:=fun h=>by have:=C.2 h.symm;cases this
   obtain⟨r,D,E,F⟩:=BG hn he hk w m xs (i+1) L;refine⟨r,by simp[Instr.findAsking,z,D],fun h=>?_,fun A h=>?_⟩
   ·simp[fR,u] at h;exact E h
   ·simp[fR,u] at h;exact F A h
 | [],_::_,_,h=>h.elim
 |_::_,[],_,h=>h.elim
theorem Jk{α β:Type}[DecidableEq α]{n l:Nat}{E:aAb}{P:aAe}{T:aAb}{e:Wr α}{f:Wr β}(hn:n<=10000)(hT:∀w,(underlying T).run P w= .ok (.array l E) w)(he:ao n P T e){S S':Nat->Prop}{w1 w2:aAa}{k:α}{cs:List aAd}(hk:e.ok k S' w2 cs)(w:aAa)
  (m:List (α×β)) (es:List MapEntry) (h:Ye e f S w1 m es):∃r,(Instr.findKey T (e.pk cs) es).run P w= .ok r w/\(fR m k=none->r=none)/\(∀b,fR m k=some b->∃j v,r=some (j,v)/\f.val b S w1 v):=by
 match m,es,h with
 | [],[],_=>exact⟨none,by simp[Instr.findKey,hT,Instr.findNow],fun _=>rfl,fun b h=>by simp[fR] at h⟩
 |q::m,x::xs,h=>
  obtain⟨r,u,z⟩:=BG hn he hk w (q::m) (x::xs) 0 h;refine⟨r,?_,z⟩;simp[Instr.findKey,hT,Instr.findNow,Instr.sameNow,u]
section
variable {F:YP}{O:AS}{d:Option Tmp}{ty:aAb}{p:String}{af:Array Edge}{gd:Option (Nat×Bool)}{x y z:aAc}
theorem Gn{α β:Type}{T:aAb}(i:Nat)(e:Wr α)(f:Wr β):JO F ⟨d,.makeMap T none,ty,p,af,gd⟩ O (.ref i) [(i,.mp e f [])]:=by
 intro ρ S a w K;refine XC.value (w':=w.alloc (.map #[] 0)) (v:= .map (some w.heap.size)) (by simp[execOp,Instr.makeMap]) ?_;refine zX (.map (some w.heap.size)) (lM _ _) rfl ?_ ?_ ?_
 ·intro b u;simp[j1] at u;subst u;exact⟨ZY _,by simp⟩
 ·intro z ρ' h _;exact⟨_,#[],0,rfl,heap_alloc_new _ _,trivial⟩
 ·intro z ρ' _ hi _;simp only[Slot.ok];exact⟨by rw[hi];exact .inr ⟨_,rfl⟩,hi.symm⟩
theorem DP{α β:Type}[DecidableEq α]{n n' l:Nat}{M KT VT E:aAb}{e:Wr α}{f:Wr β}{m:List (α×β)}{i:Nat}{k:α}{u:β}{zv:aAd}(hx:dH O.g x=some (.ref i))(hd:aY O.d i=some (.mp e f m))(hy:dH O.g y=some (.v e k))
  (hM:∀w,(underlying M).run F.P w= .ok (.map KT VT) w) (hT:∀w,(underlying KT).run F.P w= .ok (.array l E) w) (he:ao n F.P KT e) (hn:Nat.ble n 10000=true) (hk:B8 n' F.P KT e) (M3:Nat.ble n' 10000=true)
  (hz:∀w,(zeroValue VT).run F.P w= .ok zv w) (jd:∀S w,f.val u S w zv):JO F ⟨d,.lookup M x y false,ty,p,af,gd⟩ O (.v f ((fR m k).getD u)) []:=by
 intro ρ S a w K;obtain⟨B,I,_⟩:=yW K (x:=x) (by simp[Op.operands]) hx hd;obtain⟨b,C,X,D,L,N⟩:=I;have h:=K.slot y (by simp[Op.operands]) _ hy;simp only[Slot.ok] at h;obtain⟨Q,h,G⟩:=h;obtain⟨r,H,R,T⟩:=Jk (E7 hn) hT he h w m C.toList N;have z:=hk 10000 (E7 M3) C.isEmpty w S w k Q h;have A:=MapKept.run_getObj_map (P:=F.P) L;cases hm:fR m k with
 |none=>
  have:=R hm;subst this;refine XC.value (w':=w) (v:=zv) ?_ (ZC.same (by simp only[Slot.ok];exact jd _ _));simp[execOp,B,D,G,Instr.lookup,hM,A,z,H,hz]
 |some V=>
  obtain⟨j,v,rfl,U⟩:=T V hm;refine XC.value (w':=w) (v:=v) ?_ (ZC.same (by simp only[Slot.ok];exact U));simp[execOp,B,D,G,Instr.lookup,hM,A,z,H]
theorem My{α β:Type}{e:Wr α}{f:Wr β}{S:Nat->Prop}{w:aAa}{k:α}{v:β}{x:MapEntry}(h1:e.val k S w x.key)(h2:f.val v S w x.val):∀{m:List (α×β)} {xs:List MapEntry},Ye e f S w m xs->Ye e f S w (m++[(k,v)]) (xs++[x])
 | [],[],_=>⟨h1,h2,trivial⟩
 | (_,_)::_,_::_,⟨u,z,A⟩=>⟨u,z,My h1 h2 A⟩
 | [],_::_,h=>h.elim
 |_::_,[],h=>h.elim
theorem DQ{α β:Type}[DecidableEq α]{n n' l:Nat}{M KT VT E:aAb}{e:Wr α}{f:Wr β}{m m':List (α×β)}{i:Nat}{k:α}{v:β}(hm:Hr m k v=some m')(hx:dH O.g x=some (.ref i))(hd:aY O.d i=some (.mp e f m))(hy:dH O.g y=some (.v e k))(hz:dH O.g z=some (.v f v))
  (hM:∀w,(underlying M).run F.P w= .ok (.map KT VT) w) (hT:∀w,(underlying KT).run F.P w= .ok (.array l E) w) (he:ao n F.P KT e) (hn:Nat.ble n 10000=true) (hk:B8 n' F.P KT e) (M3:Nat.ble n' 10000=true):
  JM F ⟨none,.mapUpdate M x y z,ty,p,af,gd⟩ O ⟨O.g,(i,.mp e f m')::O.d⟩:=by
 obtain⟨V,rfl⟩:=Qq hm;refine qH hd rfl fun ρ a w T U=>?_;have K:=cK T U (Op.mapUpdate M x y z).operands;obtain⟨X,h2,_⟩:=yW K (x:=x) (by simp[Op.operands]) hx hd;obtain⟨b,B,u,C,D,I⟩:=h2;have h:=K.slot y (by simp[Op.operands]) _ hy;have G:=K.slot z (by simp[Op.operands]) _ hz;simp only[Slot.ok] at h G;have L:=h;obtain⟨cs,h,yc⟩:=h;obtain⟨r,h8,h9,_⟩:=Jk (E7 hn) hT he h w m B.toList I;have N:=h9 V;subst N;have Q:=hk 10000 (E7 M3) false w _ w k cs h;have R:=MapKept.run_getObj_map (P:=F.P) D;have S:=fun o=>MapKept.run_setObj_map (P:=F.P) o D;have H:=MapKept.heap_set (o':= .map (B.push { key:=a.eval y,val:=a.eval z,born:=u }) (u+1)) D;refine⟨b,{ w with heap:=w.heap.setIfInBounds b (.map (B.push { key:=a.eval y,val:=a.eval z,born:=u }) (u+1)) },.inl (by rw[C];rfl),⟨by simp,H.2,rfl,rfl,rfl⟩,?_,fun A=>?_⟩
 ·simp[execOp,X,C,yc,Instr.mapUpdate,hM,R,Q,h8,S]
 ·refine⟨b,_,_,C,H.1,?_⟩;rw[aDl];exact My (gT L A) (gT G A) (zU A I)
end
end Go.Sw
namespace Go.Sw
open Go Go.RowKit
inductive V9 (P:aAe):List aAh->List (Nat×Nat)->Prop
 |nil:V9 P [] []
 |cons {f:aAh} {fs:List aAh} {n off:Nat} {l:List (Nat×Nat)}:f.offset=off->P.cellsOf f.type=n->(P.info? f.type).isSome=true->V9 P fs l->V9 P (f::fs) ((off,n)::l)
theorem V9.mapM{P:aAe}{fs:List aAh}{l:List (Nat×Nat)}(h:V9 P fs l):(fs.mapM fun f=>(P.info? f.type).map fun i=>(f.offset,i.size))=some l:=by
 induction h with
 |nil=>rfl
 |cons A u z _ B=>
  rename_i f fs n C l _;rw[aCt,B];unfold Program.cellsOf at u;cases hi:P.info? f.type with
  |none=>rw[hi] at z;cases z
  |some i=>rw[hi] at u;simp at u;simp[A,u]
theorem dE{P:aAe}{T:aAb}{ti:TypeInfo}{fs:Array aAh}{l:List (Nat×Nat)}{z:aAd}{zs:List aAd}(hI:∀w,(typeInfo T).run P w= .ok ti w)(hU:∀w,(underlying T).run P w= .ok (.struct fs) w)(hz:ti.zero=some z)(hc:z.cells=zs.toArray)
  (hp:V9 P fs.toList l):∀parts,P.built T parts=Instr.fill (l.toArray[·]?) zs.toArray parts:=by
 intro parts;unfold Program.built;rw[uM hI,rC hU];simp only[hz,hp.mapM,hc]
theorem Yo{P:aAe}{T:aAb}{ti:TypeInfo}{de:TypeDesc}{z:aAd}(hI:∀w,(typeInfo T).run P w= .ok ti w)(hU:∀w,(underlying T).run P w= .ok de w)(hz:ti.zero=some z)(hd:(∃n E iE,de= .array n E/\P.info? E=some iE)):P.built T []=some z.cells:=by
 obtain⟨n,E,iE,rfl,h⟩:=hd;unfold Program.built;rw[uM hI,rC hU];simp only[hz,h];rfl
section
variable {F:YP}{O:AS}{pb:Option Nat}{s:Slot}{d:Option Tmp}{ty:aAb}{p:String}{af:Array Edge}{gd:Option (Nat×Bool)}{x y z:aAc}
theorem cV{α:Type}{e:Wr α}{v:α}{T E:aAb}{n:Nat}{ti tE:TypeInfo}{cs:List aAd}(hI:∀w,(typeInfo T).run F.P w= .ok ti w)(hU:∀w,(underlying T).run F.P w= .ok (.array n E) w)(hE:∀w,(typeInfo E).run F.P w= .ok tE w)(hz:ti.zero=some (.agg cs.toArray))(ha:e.agg=true)(hv:∀S w,e.ok v S w cs):
  JO F ⟨d,.build T #[],ty,p,af,gd⟩ O (.v e v) []:=by
 intro ρ S a w K;have h:=Yo hI hU hz ⟨n,E,tE,rfl,uM hE⟩;refine XC.value (w':=w) (v:= .agg cs.toArray) ?_ (ZC.same (by simp only[Slot.ok];exact⟨cs,hv _ _,by simp[Wr.pk,ha]⟩));have:=run_build (P:=F.P) w T #[] cs.toArray (by simpa[Value.cells] using h);simp only[execOp,aDc];simp[this]
def sub{α:Type}(xs:List α)(lo hi:Int):Option (List α):=if 0<=lo/\lo<=hi/\hi<=xs.length then some ((xs.take hi.toNat).drop lo.toNat) else none
theorem gW{α:Type}{xs ys:List α}{lo hi:Int}(h:sub xs lo hi=some ys):0<=lo/\lo<=hi/\hi<=xs.length/\ys=(xs.take hi.toNat).drop lo.toNat:=by
 unfold sub at h;split at h
 ·rename_i u;cases h;exact⟨u.1,u.2.1,u.2.2,rfl⟩
 ·cases h
theorem wE{α:Type}{e:Wr α}{S w}:∀{xs:List α} {cs:List aAd} (n:Nat),e.j7 xs S w cs->e.j7 (xs.drop n) S w (cs.drop (n*e.n))
 |xs,cs,0,h=>by simpa using h
 | [],cs,n+1,h=>by
  have:cs=[]:=h;subst this;simpa using h
 |x::xs,cs,n+1,⟨c,d,A,B,C⟩=>by
  subst A;have:=wE n C;have u:=e.len B;rw[Nat.succ_mul,aDg (n*e.n),<-u,aD6,u];have z:c.drop (e.n+n*e.n)=[]:=aD0 (by omega);rw[z];simpa using this
theorem sZ{α:Type}{e:Wr α}{S w}:∀{xs:List α} {cs:List aAd} (n:Nat),e.j7 xs S w cs->e.j7 (xs.take n) S w (cs.take (n*e.n))
 |xs,cs,0,h=>by simp;rfl
 | [],cs,n+1,h=>by
  have:cs=[]:=h;subst this;simpa using h
 |x::xs,cs,n+1,⟨c,d,B,z,C⟩=>by
  subst B;have:=sZ n C;have u:=e.len z;refine⟨c,d.take (n*e.n),?_,z,this⟩;rw[Nat.succ_mul,aDg (n*e.n),<-u,List.take_append,u];have A:c.take (e.n+n*e.n)=c:=aCa (by omega);rw[A];simp
theorem XK.drop{w:aAa}{b off:Nat}{ds:List aAd}(n:Nat)(h:XK w b off ds):XK w b (off+n) (ds.drop n):=by
 obtain⟨c,T,z,A,B⟩:=h;refine⟨c,T,z,A,fun j u=>?_⟩;have:=B (n+j) (by simp at u;omega);rw[List.getElem_drop,<-this];congr 1;omega
theorem XK.take{w:aAa}{b off:Nat}{ds:List aAd}(n:Nat)(h:XK w b off ds):XK w b off (ds.take n):=by
 obtain⟨c,T,z,A,B⟩:=h;refine⟨c,T,z,A,fun j u=>?_⟩;rw[List.getElem_take];exact B j (by simp at u;omega)
theorem HJ{α:Type}{e:Wr α}{xs ys:List α}{lo hi:Int}{S:Nat->Prop}{w:aAa}{a:Option aAk}{cap:Nat}(hs:sub xs lo hi=some ys)(hl:xs.length<=cap/\xs.length<=140737488355328)
  (h:xs=[]\/∃b off ds,a=some ⟨b,off,none⟩/\b<w.heap.size/\¬S b/\XK w b off ds/\e.j7 xs S w ds):
  (Wr.sl e).val ys S w (.slice (if cap=lo.toNat then a else a.map (·.add (lo.toNat*e.n))) (hi.toNat - lo.toNat) (cap - lo.toNat)):=by
 obtain⟨F,G,H,rfl⟩:=gW hs;have u:((xs.take hi.toNat).drop lo.toNat).length=hi.toNat - lo.toNat:=by rw[Z2,I8];omega
 refine sP.2 ⟨_,_,by rw[u],⟨by rw[u];omega,by rw[u];omega⟩,?_⟩;rcases h with h |⟨b,off,ds,rfl,B,C,D,E⟩
 ·subst h;left;simp
 ·by_cases z:hi.toNat - lo.toNat=0
  ·left;exact kt (by rw[u];exact z)
  ·right;have A:¬cap=lo.toNat:=(by omega);refine⟨b,off+lo.toNat*e.n,_,by rw[XV A];simp[Addr.add_lit],B,C,(D.take (hi.toNat*e.n)).drop (lo.toNat*e.n),wE _ (sZ _ E)⟩
theorem DR{P:aAe}{w:aAa}{len cap:Nat}{k k':aAg}{lo hi:Int}(h0:0<=lo)(h1:lo<=hi)(h2:hi<=cap):(Instr.sliceBounds true len cap (some (.int k lo)) (some (.int k' hi)) none).run P w= .ok (lo.toNat,hi.toNat,cap) w:=by
 have h:0<=hi:=by omega
 have u:lo<=(hi.toNat:Int):=by omega
 simp only[Instr.sliceBounds,Instr.sliceBound,asIntOf,Sem.run_bind,Sem.run_pure,Result.andThen_ok,h2,h,u,h0,and_self,r7]
theorem Hs{P:aAe}{w:aAa}{len cap:Nat}{k':aAg}{hi:Int}(h1:0<=hi)(h2:hi<=cap):(Instr.sliceBounds true len cap none (some (.int k' hi)) none).run P w= .ok (0,hi.toNat,cap) w:=by
 simp[Instr.sliceBounds,Instr.sliceBound,asIntOf,h1,h2]
theorem Dp{P:aAe}{w:aAa}{len cap:Nat}{k:aAg}{lo:Int}(h0:0<=lo)(h1:lo<=len):(Instr.sliceBounds true len cap (some (.int k lo)) none none).run P w= .ok (lo.toNat,len,cap) w:=by
 simp[Instr.sliceBounds,Instr.sliceBound,asIntOf,h0,h1]
theorem HK{α:Type}{e:Wr α}{xs:List α}{xs':Array aAc}{ρ:Nat->LV}{S a w}(K:B3 O xs' ρ S a w)(hm:x∈xs')(hx:dH O.g x=some (.v (Wr.sl e) xs)):
  ∃ad cap,a.eval x= .slice ad xs.length cap/\(xs.length<=cap/\xs.length<=140737488355328)/\(xs=[]\/∃b off ds,ad=some ⟨b,off,none⟩/\b<w.heap.size/\¬S b/\XK w b off ds/\e.j7 xs S w ds):=by
 have h:=K.slot x hm _ hx;simp only[Slot.ok] at h;exact sP.1 h
theorem BH{α:Type}{e:Wr α}{xs ys:List α}{hi:Int}{k':aAg}{U E:aAb}(hs:sub xs 0 hi=some ys)(hx:dH O.g x=some (.v (Wr.sl e) xs))(hz:dH O.g z=some (.v (Wr.int k') hi))
  (hU:∀w,(underlying U).run F.P w= .ok (.slice E) w) (hE:∀w,(sizeOf E).run F.P w= .ok e.n w):JO F ⟨d,.slice U x none (some z) none,ty,p,af,gd⟩ O (.v (Wr.sl e) ys) []:=by
 intro ρ S a w K;obtain⟨D,u,A,B,C⟩:=HK K (x:=x) (by simp[Op.operands]) hx;have h:=(fY K (x:=z) (by simp[Op.operands]) hz).1;obtain⟨G,s1,s2,_⟩:=gW hs;refine XC.value (w':=w) ?_ (ZC.same (by simp only[Slot.ok];exact HJ hs B C));simp[execOp,Instr.sliceAt,Instr.slice,A,h,hU,hE,Hs s1 (show hi<=(u:Int) by omega)]
theorem xB{α:Type}{e:Wr α}{xs ys:List α}{lo:Int}{k:aAg}{U E:aAb}(hs:sub xs lo (xs.length:Int)=some ys)(hx:dH O.g x=some (.v (Wr.sl e) xs))(hy:dH O.g y=some (.v (Wr.int k) lo))
  (hU:∀w,(underlying U).run F.P w= .ok (.slice E) w) (hE:∀w,(sizeOf E).run F.P w= .ok e.n w):JO F ⟨d,.slice U x (some y) none none,ty,p,af,gd⟩ O (.v (Wr.sl e) ys) []:=by
 intro ρ S a w K;obtain⟨C,D,u,z,A⟩:=HK K (x:=x) (by simp[Op.operands]) hx;have h:=(fY K (x:=y) (by simp[Op.operands]) hy).1;obtain⟨B,s1,s2,_⟩:=gW hs;refine XC.value (w':=w) ?_ (ZC.same (by simp only[Slot.ok];exact HJ hs z A));simp[execOp,Instr.sliceAt,Instr.slice,u,h,hU,hE,Dp B s1]
theorem HL{α:Type}{e:Wr α}{xs ys:List α}{lo hi m:Int}{k k' k2:aAg}{q:aAc}{U E:aAb}(hs:sub xs lo hi=some ys)(hm:hi<=m/\m<=xs.length)(hx:dH O.g x=some (.v (Wr.sl e) xs))(hy:dH O.g y=some (.v (Wr.int k) lo))(hz:dH O.g z=some (.v (Wr.int k') hi))(hq:dH O.g q=some (.v (Wr.int k2) m))
  (hU:∀w,(underlying U).run F.P w= .ok (.slice E) w) (hE:∀w,(sizeOf E).run F.P w= .ok e.n w):JO F ⟨d,.slice U x (some y) (some z) (some q),ty,p,af,gd⟩ O (.v (Wr.sl e) ys) []:=by
 intro ρ S a w K;obtain⟨G,H,h1,h2,D⟩:=HK K (x:=x) (by simp[Op.operands]) hx;have A:=(fY K (x:=y) (by simp[Op.operands]) hy).1;have B:=(fY K (x:=z) (by simp[Op.operands]) hz).1;have C:=(fY K (x:=q) (by simp[Op.operands]) hq).1;obtain⟨s0,s1,s2,rfl⟩:=gW hs;have u:((xs.take hi.toNat).drop lo.toNat).length=hi.toNat - lo.toNat:=by rw[Z2,I8];omega
 have I:(Wr.sl e).val ((xs.take hi.toNat).drop lo.toNat) S w (.slice (if m.toNat=lo.toNat then G else G.map (·.add (lo.toNat*e.n))) (hi.toNat - lo.toNat) (m.toNat - lo.toNat)):=by
  refine sP.2 ⟨_,_,by rw[u],⟨by rw[u];omega,by rw[u];omega⟩,?_⟩;rcases D with h |⟨b,aa,ds,rfl,D,A,B,C⟩
  ·subst h;left;simp
  ·by_cases L:hi.toNat - lo.toNat=0
   ·left;exact kt (by rw[u];exact L)
   ·right;have M:¬m.toNat=lo.toNat:=(by omega);refine⟨b,aa+lo.toNat*e.n,_,by rw[XV M];simp[Addr.add_lit],D,A,(B.take (hi.toNat*e.n)).drop (lo.toNat*e.n),wE _ (sZ _ C)⟩
 refine XC.value (w':=w) ?_ (ZC.same (by simp only[Slot.ok];exact I));have N:(Instr.sliceBounds true xs.length H (some (.int k lo)) (some (.int k' hi)) (some (.int k2 m))).run F.P w= .ok (lo.toNat,hi.toNat,m.toNat) w:=by
  have Q:0<=m:=by omega
  have R:m<=(H:Int):=by omega
  have T:0<=hi:=by omega
  have V:hi<=(m.toNat:Int):=by omega
  have X:lo<=(hi.toNat:Int):=by omega
  simp only[Instr.sliceBounds,Instr.sliceBound,asIntOf,Sem.run_bind,Sem.run_pure,Result.andThen_ok,s0,Q,R,T,V,X,and_self,r7]
 simp[execOp,Instr.sliceAt,Instr.slice,h1,A,B,C,hU,hE,N]
def C7{α:Type}(n:Nat)(xs:List α):Option (List α):=if n<=xs.length/\0<n then some (xs.take n) else none
theorem Es{α:Type}{e:Wr α}{xs ys:List α}{n:Nat}{U E:aAb}(hs:C7 n xs=some ys)(hx:dH O.g x=some (.v (Wr.sl e) xs))(hU:∀w,(underlying U).run F.P w= .ok (.array n E) w):
  JO F ⟨d,.sliceToArrayPointer U x,ty,p,af,gd⟩ O (.ZH (Wr.arr n e) ys) []:=by
 intro ρ S a w K;obtain⟨I,L,C,M,u⟩:=HK K (x:=x) (by simp[Op.operands]) hx;unfold C7 at hs;split at hs
 ·rename_i B;cases hs;rcases u with h |⟨b,z,N,rfl,u,D,G,H⟩
  ·subst h;simp at B;omega
  ·have A:¬xs.length<n:=(by omega);refine XC.value (w':=w) (v:= .pointer (some ⟨b,z,none⟩)) ?_ (ZC.same (by simp only[Slot.ok];exact⟨b,z,_,rfl,u,D,G.take (n*e.n),by rw[I8];omega,sZ _ H⟩));simp[execOp,Instr.arrayAt,C,hU,A]
 ·cases hs
theorem Bi{k:aAg}{m n:Int}{U U':aAb}(hx:dH O.g x=some (.v (Wr.int k) m))(hy:dH O.g y=some (.v (Wr.int k) n)):
  JO F ⟨d,.call ⟨.builtin .max,#[x,y],#[U,U']⟩,ty,p,af,gd⟩ O (.v (Wr.int k) (max m n)) []:=by
 intro ρ S a w K;obtain⟨h,z⟩:=fY K (x:=x) (by simp[Op.operands,Call.operands]) hx;obtain⟨u,A⟩:=fY K (x:=y) (by simp[Op.operands,Call.operands]) hy;have e:(if n>m then n else m)=max m n:=by split<;>omega
 refine XC.value (w':=w) (v:= .int k (max m n)) ?_ (ZC.same (tP (by unfold Dh at*;omega) ρ S w));simp[execOp,resolve,invoke,builtin,h,u,Builtin.max_,Builtin.max2,e]
theorem yX{k:aAg}{m n:Int}{U U':aAb}(hx:dH O.g x=some (.v (Wr.int k) m))(hy:dH O.g y=some (.v (Wr.int k) n)):
  JO F ⟨d,.call ⟨.builtin .min,#[x,y],#[U,U']⟩,ty,p,af,gd⟩ O (.v (Wr.int k) (min m n)) []:=by
 intro ρ S a w K;obtain⟨h,z⟩:=fY K (x:=x) (by simp[Op.operands,Call.operands]) hx;obtain⟨u,A⟩:=fY K (x:=y) (by simp[Op.operands,Call.operands]) hy;have e:(if n<m then n else m)=min m n:=by split<;>omega
 refine XC.value (w':=w) (v:= .int k (min m n)) ?_ (ZC.same (tP (by unfold Dh at*;omega) ρ S w));simp[execOp,resolve,invoke,builtin,h,u,Builtin.min_,Builtin.min2,e]
theorem Jl{T U:aAb}{l:List Slot}{i off n:Nat}{s0:Slot}(hx:dH O.g x=some (.ptr i off))(he:aY O.d i=some (.box T l pb))(ho:nP l off=some s0)(hy:Arg O false y s)(hp:s.plain=true)(B4:s.sz=n)(O0:s0.sz=n)
  (hS:∀w,(sizeOf U).run F.P w= .ok n w):JM F ⟨none,.store U x y,ty,p,af,gd⟩ O ⟨O.g,(i,.box T (oC l off s) pb)::O.d⟩:=by
 refine qH he rfl fun ρ a w z A=>?_;have K:=cK z A (Op.store U x y).operands;obtain⟨b,S,B,I,C,L⟩:=zZ K (x:=x) (by simp[Op.operands]) hx he;have h:=rA hp (hy ρ _ a w (cK z A #[y]));simp only[V6,r5] at h;obtain⟨M,c,N,rfl,rfl,Q,R⟩:=vK ho L;have D:∀u∈(a.eval y).cells.toList,u.oneCell'=true:=fun u G=>Hp h u G (fun e=>by subst e;cases hp);have E:=lH (P:=F.P) (w:=w) (U:=U) hS (by have:=nS h;simp only[ed] at this;omega) D C rfl (by rw[nS Q];exact O0);refine⟨b,w.setRow b (M++((a.eval y).cells.toList++N)).toArray,.inl (by rw[B];rfl),ee.setRow w b _,?_,fun H=>?_⟩
 ·exact lI I E
 ·refine⟨⟨b,_,B,setRow_heap w b _ _ T _ C,?_⟩,(z.own i _ he).2⟩;exact fW _ _ (R s _ h) H (fun _ _=>rfl)
theorem HM(g:Nat)(ρ:Nat->LV)(S:Nat->Prop)(w:aAa):(Slot.o7 g []).ok ρ S w (.func (.func g) #[] #[]):=by
 simp only[Slot.ok];exact⟨[],rfl,rfl⟩
theorem Arg.fn{g:Nat}{l8:Bool}:Arg O l8 (.func g) (.o7 g []):=fun ρ _ a w _=>HM g ρ _ w
end
end Go.Sw
namespace Go.Sw
open Go Go.RowKit
section
variable {F:YP}{O:AS}{pb:Option Nat}{s:Slot}{d:Option Tmp}{ty:aAb}{p:String}{af:Array Edge}{gd:Option (Nat×Bool)}{x y z:aAc}
theorem Bj{ρ S w}:∀{l l':List Slot} {vs M4:List aAd},aX ρ S w l vs->aX ρ S w l' M4->aX ρ S w (l++l') (vs++M4)
 | [],_,vs,_,h,z=>by simp only[aX] at h;subst h;exact z
 |s::l,_,vs,_,h,z=>by
  simp only[aX] at h;obtain⟨u,C,rfl,A,B⟩:=h;simp only[fy,aX];exact⟨u,_,rfl,A,Bj B z⟩
theorem Qr{P:aAe}{f:aAf}{xs:List aAc}{ts:Array aAb}{a:aAm}{w:aAa}{cs:List aAd}(hx:a.eval x= .func (.func f) #[] cs.toArray)(ZE:∀args w,(callFunc f args).run P w= .ok (.enter f args) w):
  (execOp a.eval ⟨d,.call ⟨.value x,xs.toArray,ts⟩,ty,p,af,gd⟩).run P w= .ok (.enter f (xs.map a.eval++cs).toArray) w:=by
 simp[execOp,resolve,hx,Deferred.ofValue,invoke,ZE]
theorem tY{f:aAf}{xs:List aAc}{cap:List Slot}(ha:W5 O false xs cap):JO F ⟨d,.makeFunc (.func f) #[] xs.toArray,ty,p,af,gd⟩ O (.o7 f cap) []:=by
 intro ρ S a w K;have:=ha.spec (ys:=(Op.makeFunc (.func f) #[] xs.toArray).operands) (by intro x h;simp[Op.operands,h]) K;simp only[V6,r5] at this;refine XC.value (w':=w) (v:= .func (.func f) #[] (xs.map a.eval).toArray) (by simp[execOp,Instr.makeFunc]) (ZC.same (by simp only[Slot.ok];exact⟨_,rfl,this⟩))
theorem Yp{α:Type}{i:Nat}{T:aAb}{e:Wr α}{v:α}{bl:List Slot}{ρ:Nat->LV}{S:Nat->Prop}{w:aAa}{u:aAd}(h0:(Slot.ptr i 0).ok ρ S w u)(he:(XB.box T bl pb).ok ρ S w (ρ i))(hs:N3 bl e v):
  (Slot.ZH e v).ok ρ (fun _=>False) w u:=by
 simp only[Slot.ok] at h0 ⊢;obtain⟨⟨b,z⟩,D⟩:=h0;obtain⟨⟨A,E,B,C,F⟩,_⟩:=he;obtain rfl:A=b:=by rw[z] at B;simpa using B.symm
 exact⟨A,0,E,by rw[D,z];rfl,(XK.of_heap C).lt,fun h=>h,XK.of_heap C,e.mono ((hs _ _ _ _).1 F) (Aa S w true)⟩
inductive kz (O:AS):List Slot->List Slot->Prop
 |nil:kz O [] []
 |same {s:Slot} {l l':List Slot}:kz O l l'->kz O (s::l) (s::l')
 |ptr {α:Type} {i:Nat} {T:aAb} {e:Wr α} {v:α} {bl l l':List Slot} {pb:Option Nat}:aY O.d i=some (.box T bl pb)->N3 bl e v->kz O l l'->kz O (.ptr i 0::l) (.ZH e v::l')
theorem kz.spec{l l':List Slot}(h:kz O l l'){ρ S w}(my:∀i∈eC l,∀en,aY O.d i=some en->en.ok ρ S w (ρ i)):∀vs,aX ρ S w l vs->aX ρ (fun _=>False) w l' vs:=by
 induction h with
 |nil=>intro vs h;exact h
 |same _ E=>
  intro vs h;simp only[aX] at h ⊢;obtain⟨u,z,B,C,D⟩:=h;exact⟨u,z,B,Slot.WY _ u C (Aa S w true) (fun _ _=>rfl),E (fun i A=>my i (by simp[eC,A])) z D⟩
 |ptr F G _ E=>
  intro vs h;simp only[aX] at h ⊢;obtain⟨u,z,B,C,D⟩:=h;exact⟨u,z,B,Yp C (my _ (by simp[eC,Slot.ZR]) _ F) G,E (fun i A=>my i (by simp[eC,A])) z D⟩
theorem Arg.N0{α:Type}{i:Nat}{T:aAb}{e:Wr α}{v:α}{bl:List Slot}(h:dH O.g x=some (.ptr i 0))(he:aY O.d i=some (.box T bl pb))(hs:N3 bl e v):Arg O true x (.ZH e v):=by
 intro ρ S a w K;have u:=K.slot x (by simp) _ h;exact Yp u (K.G6 x (by simp) _ h i (by simp[Slot.ZR]) _ he).1 hs
theorem Arg.aOq{g:Nat}{cap R6:List Slot}(h:dH O.g x=some (.o7 g cap))(hc:kz O cap R6):Arg O true x (.o7 g R6):=by
 intro ρ S a w K;have u:=K.slot x (by simp) _ h;simp only[Slot.ok] at u;obtain⟨vs,C,D⟩:=u;simp only[Slot.ok,r7];exact⟨vs,C,hc.spec (fun i z A B=>(K.G6 x (by simp) _ h i (by simpa[Slot.ZR] using z) A B).1) vs D⟩
theorem rT{α:Type}{e:Wr α}{v:α}(hx:dH O.g x=some (.ZH e v)):JO F ⟨d,.nilCheck x,ty,p,af,gd⟩ O (.ZH e v) []:=by
 intro ρ S a w K;have h:=K.slot x (by simp[Op.operands]) _ hx;have u:=h;simp only[Slot.ok] at u;obtain⟨b,A,B,z,_⟩:=u;refine XC.value (w':=w) (v:=a.eval x) ?_ (ZC.same h);simp[execOp,z]
theorem aK{i off:Nat}(hx:dH O.g x=some (.ptr i off)):JO F ⟨d,.nilCheck x,ty,p,af,gd⟩ O (.ptr i off) []:=by
 intro ρ S a w K;have h:=K.slot x (by simp[Op.operands]) _ hx;have u:=h;simp only[Slot.ok] at u;obtain⟨⟨b,z⟩,A⟩:=u;refine XC.value (w':=w) (v:=a.eval x) ?_ (ZC.same h);simp[execOp,A,z,Dg]
end
end Go.Sw
namespace Go.Sw
open Go Go.RowKit
theorem N3.F1{α β:Type}{l l':List Slot}{a:Wr α}{b:Wr β}{x:α}{y:β}(h:N3 l a x)(h':N3 l' b y):N3 (l++l') (Wr.pr a b) (x,y):=N3.pr (x:=(x,y)) h h'
section
variable {F:YP}{O:AS}{pb:Option Nat}{s:Slot}{d:Option Tmp}{ty:aAb}{p:String}{af:Array Edge}{gd:Option (Nat×Bool)}{x y z:aAc}
theorem aN{f:aAf}{xs:List aAc}{ts:Array aAb}{ss:List Slot}{res:Slot}(hc:XL F.P f ss res [])(ZE:∀args w,(callFunc f args).run F.P w= .ok (.enter f args) w)
  (ha:W5 O false xs ss):JO F ⟨d,.call ⟨.value (.func f),xs.toArray,ts⟩,ty,p,af,gd⟩ O res []:=by
 intro ρ S a w K;refine XC.enter (uL ZE) ?_;have:=ha.spec (ys:=(Op.call ⟨.value (.func f),xs.toArray,ts⟩).operands) (by intro x u;simp[Op.operands,Call.operands,u]) K;refine(hc S w _ ρ K.low this).mono ?_;rintro e z ⟨v,rfl,h⟩;exact⟨v,rfl,h⟩
theorem tZ{f:aAf}{xs:List aAc}{ts:Array aAb}{ss cap:List Slot}{res:Slot}(hx:dH O.g x=some (.o7 f cap))(hc:XL F.P f (ss++cap) res [])(ZE:∀args w,(callFunc f args).run F.P w= .ok (.enter f args) w)
  (ha:W5 O false xs ss):JO F ⟨d,.call ⟨.value x,xs.toArray,ts⟩,ty,p,af,gd⟩ O res []:=by
 intro ρ S a w K;have u:=K.slot x (by simp[Op.operands,Call.operands]) _ hx;simp only[Slot.ok] at u;obtain⟨B,z,A⟩:=u;refine XC.enter (Qr z ZE) ?_;have:=ha.spec (ys:=(Op.call ⟨.value x,xs.toArray,ts⟩).operands) (by intro x hx;simp[Op.operands,Call.operands,hx]) K;refine(hc S w _ ρ K.low (Bj this A)).mono ?_;rintro e C ⟨v,rfl,h⟩;exact⟨v,rfl,h⟩
theorem rU{f:aAf}{xs:List aAc}{ts:Array aAb}{ss:List Slot}{res:Slot}(hc:XL F.P f ss res [])(ZE:∀args w,(callFunc f args).run F.P w= .ok (.enter f args) w)
  (ha:W5 O true xs ss) (hf:YZ res):JO F ⟨d,.call ⟨.value (.func f),xs.toArray,ts⟩,ty,p,af,gd⟩ O res []:=by
 intro ρ S a w K;refine XC.enter (uL ZE) ?_;have:=ha.spec (ys:=(Op.call ⟨.value (.func f),xs.toArray,ts⟩).operands) (by intro x z;simp[Op.operands,Call.operands,z]) K;refine(hc (fun _=>False) w _ ρ (fun _ h=>h.elim) this).mono ?_;rintro e E ⟨v,rfl,ρ',A,B,C,G⟩;refine⟨v,rfl,ρ',A,B,hf _ _ _ _ _ C,⟨fun i u h=>by simp[aY] at h,fun i u b h=>by simp[aY] at h,fun i j u D b h=>by simp[aY] at h⟩⟩
theorem Mz{P:aAe}{w:aAa}{n:Nat}:(Instr.sliceBounds false n n none none none).run P w= .ok (0,n,n) w:=by simp[Instr.sliceBounds]
theorem Ks{P:aAe}{w:aAa}{n:Nat}{k:aAg}{hi:Int}(h0:0<=hi)(h1:hi<=n):(Instr.sliceBounds false n n none (some (.int k hi)) none).run P w= .ok (0,hi.toNat,n) w:=by
 simp[Instr.sliceBounds,Instr.sliceBound,asIntOf,h0,h1]
theorem DS{P:aAe}{w:aAa}{U E:aAb}{b off len m:Nat}(hU:∀w,(underlying U).run P w= .ok (.array len E) w)(hE:∀w,(sizeOf E).run P w= .ok m w):(Instr.sliceAt U (.pointer (some ⟨b,off,none⟩)) none none none).run P w= .ok (.slice (some ⟨b,off,none⟩) len len) w:=by
 have u:Addr.add ⟨b,off,none⟩ 0=⟨b,off,none⟩:=by rw[Addr.add_lit];rfl
 by_cases h:len=0
 ·subst h;simp[Instr.sliceAt,hU,hE,Instr.sureAddr,Mz]
 ·simp[Instr.sliceAt,hU,hE,Instr.sureAddr,Mz,h,u]
theorem Yq{P:aAe}{w:aAa}{U E:aAb}{b off len m:Nat}{k:aAg}{hi:Int}(h0:0<=hi)(h1:hi<=len)(hU:∀w,(underlying U).run P w= .ok (.array len E) w)(hE:∀w,(sizeOf E).run P w= .ok m w):(Instr.sliceAt U (.pointer (some ⟨b,off,none⟩)) none (some (.int k hi)) none).run P w= .ok (.slice (some ⟨b,off,none⟩) hi.toNat len) w:=by
 have u:Addr.add ⟨b,off,none⟩ 0=⟨b,off,none⟩:=by rw[Addr.add_lit];rfl
 by_cases h:len=0
 ·subst h;simp[Instr.sliceAt,hU,hE,Instr.sureAddr,Ks h0 h1]
 ·simp[Instr.sliceAt,hU,hE,Instr.sureAddr,Ks h0 h1,h,u]
theorem Qs{α:Type}{e:Wr α}{zs:List α}{T U E:aAb}{l:List Slot}{i off len:Nat}(hx:dH O.g x=some (.ptr i off))(he:aY O.d i=some (.box T l pb))(_ho:nP l off=some (.v (Wr.arr len e) zs))
  (hU:∀w,(underlying U).run F.P w= .ok (.array len E) w) (hE:∀w,(sizeOf E).run F.P w= .ok e.n w):
  JO F ⟨d,.slice U x none none none,ty,p,af,gd⟩ O (.D4 i off 0 len len) []:=by
 intro ρ S a w K;obtain⟨b,z,h,u,A,B⟩:=zZ K (x:=x) (by simp[Op.operands]) hx he;refine XC.value (w':=w) (v:= .slice (some ⟨b,off,none⟩) len len) ?_ (ZC.same (by simp only[Slot.ok];exact⟨⟨b,h⟩,by rw[h];rfl⟩));simp[execOp,u,DS hU hE]
theorem TC{xs:Array aAc}{ρ:Nat->LV}{S a w}(K:B3 O xs ρ S a w)(hm:x∈xs){i off n cap:Nat}{T:aAb}{l:List Slot}(hx:dH O.g x=some (.D4 i off 0 n cap))(he:aY O.d i=some (.box T l pb)):
  ∃b cs,a.eval x= .slice (some ⟨b,off,none⟩) n cap/\w.heap[b]? =some (.cells cs.toArray T (0,0))/\bO ρ S w l cs:=by
 have h:=K.slot x hm _ hx;simp only[Slot.ok] at h;obtain⟨⟨b,u⟩,B⟩:=h;have:=(K.G6 x hm _ hx i (by simp[Slot.ZR]) _ he).1;obtain⟨⟨z,cs,A,C,D⟩,_⟩:=this;obtain rfl:z=b:=by rw[u] at A;simpa using A.symm
 exact⟨z,cs,by rw[B,u];rfl,C,D⟩
theorem MS{α:Type}{e:Wr α}{zs:List α}{T:aAb}{l:List Slot}{b off len:Nat}{cs:List aAd}{ρ:Nat->LV}{S:Nat->Prop}{w:aAa}(h3:w.heap[b]? =some (.cells cs.toArray T (0,0)))(h4:bO ρ S w l cs)(ho:nP l off=some (.v (Wr.arr len e) zs)):
  zs.length=len/\∃ds,XK w b off ds/\e.j7 zs S w ds:=by
 obtain⟨u,c,z,rfl,rfl,h,_⟩:=vK ho h4;simp only[Slot.j9] at h;exact⟨h.1,c,by have:=(XK.of_heap h3).sub;simpa using this,h.2⟩
theorem Src.D4{α:Type}{e:Wr α}{zs:List α}{T:aAb}{l:List Slot}{i off len:Nat}(h:dH O.g y=some (.D4 i off 0 len len))(he:aY O.d i=some (.box T l pb))(ho:nP l off=some (.v (Wr.arr len e) zs))(hlen:Nat.ble len 4294967296=true):Src O y e zs:=by
 intro ρ S a w K;have hlen:=E7 hlen;obtain⟨b,F,u,z,A⟩:=TC K (x:=y) (by simp) h he;obtain⟨B,C,D,E⟩:=MS z A ho;exact⟨by omega,_,_,by rw[u,B],.inr ⟨b,off,C,rfl,D,E⟩⟩
theorem DT{α:Type}{e:Wr α}{T E:aAb}{n:Nat}{ti tE:TypeInfo}{z:aAd}{ps:List (Nat×aAc)}{zs:List α}(hI:∀w,(typeInfo T).run F.P w= .ok ti w)(hU:∀w,(underlying T).run F.P w= .ok (.array n E) w)(hE:∀w,(typeInfo E).run F.P w= .ok tE w)(hs:tE.size=e.n)(hz:ti.zero=some z)(hzn:z.cells.size=n*e.n)
  (hl:ps.length=n) (ae:zs.length=n) (he:H4 O e 0 ps zs):JO F ⟨d,.build T ps.toArray,ty,p,af,gd⟩ O (.v (Wr.arr n e) zs) []:=by
 intro ρ S a w K;obtain⟨h,B,C⟩:=he.spec (ys:=(Op.build T ps.toArray).operands) (by intro x u;simp[Op.operands] at u ⊢;exact u) K [] z.cells.toList (by simp) (by rw[hl,ed,hzn]);refine XC.value (w':=w) (v:= .agg h.toArray) ?_ (ZC.same (by simp only[Slot.ok];exact⟨h,⟨ae,C⟩,rfl⟩));have A:F.P.built T (ps.map fun q=>(q.1,a.eval q.2))=some h.toArray:=by
  unfold Program.built;rw[uM hI,rC hU];simp only[hz,uM hE,hs];simpa using B
 have:=run_build (P:=F.P) w T (ps.map fun q=>(q.1,a.eval q.2)).toArray h.toArray (by simpa using A);simp only[execOp,aDc];simp[this]
end
end Go.Sw
namespace Go.Sw
open Go Go.RowKit
def Wr.M6{α:Type}(e:Wr α):Wr (Bool×List α) where
 n:=1
 agg:=false
 ok x S w cs:=(Wr.sl e).ok x.2 S w cs/\∀a l c,cs=[.slice a l c]->x.1=a.isNone
 len h:=(Wr.sl e).len h.1
 one _:=rfl
 cell h:=(Wr.sl e).cell h.1
 mono h k:=⟨(Wr.sl e).mono h.1 k,h.2⟩
theorem Sp{α:Type}{e:Wr α}{b:Bool}{xs:List α}{S w u}(h:(Wr.M6 e).val (b,xs) S w u):(Wr.sl e).val xs S w u/\∃a l c,u= .slice a l c/\b=a.isNone:=by
 obtain⟨B,⟨z,C⟩,rfl⟩:=h;refine⟨⟨B,z,rfl⟩,?_⟩;obtain⟨a,D,A,_⟩:=z;exact⟨a,_,D,by rw[A];rfl,C _ _ _ A⟩
theorem rV{α:Type}{P:aAe}{f:aAf}{e:Wr α}{xs:List α}{res:Slot}{new:List (Nat×XB)}(h:∀b,(b=true->xs=[])->XL P f [.v (Wr.M6 e) (b,xs)] res new):XL P f [.v (Wr.sl e) xs] res new:=by
 intro S w vs ρ hl hv;simp only[aX,Slot.ok] at hv;obtain⟨u,F,rfl,C,rfl⟩:=hv;obtain⟨a,A,rfl,D,z⟩:=sP.1 C;refine h a.isNone (fun B=>?_) S w _ ρ hl ?_
 ·rcases z with z |⟨b,G,H,rfl,_⟩
  ·exact z
  ·cases B
 ·simp only[aX,Slot.ok];refine⟨_,[],rfl,⟨[.slice a xs.length A],⟨⟨a,A,rfl,D,z⟩,fun E l c h=>?_⟩,rfl⟩,rfl⟩;simp at h;rw[h.1]
section
variable {F:YP}{O:AS}{s:Slot}{d:Option Tmp}{ty:aAb}{p:String}{af:Array Edge}{gd:Option (Nat×Bool)}{x y z:aAc}
theorem xR{α:Type}{e:Wr α}{v:Bool×List α}{T T' E:aAb}(hx:dH O.g x=some (.v (Wr.M6 e) v))(hT:∀w,(underlying T).run F.P w= .ok (.slice E) w):JO F ⟨d,.binOp .eql T x (.const (.slice none 0 0)) T',ty,p,af,gd⟩ O (.v Wr.bool v.1) []:=by
 intro ρ S a w K;have h:=K.slot x (by simp[Op.operands]) _ hx;simp only[Slot.ok] at h;obtain⟨b,xs⟩:=v;obtain⟨_,u,l,c,A,rfl⟩:=Sp h;have z:=run_equalIn_slice_nil (P:=F.P) w 9999 T E u l c (rC hT);refine XC.value (w':=w) (v:= .bool u.isNone) ?_ (ZC.same (nR _ ρ S w));exact Yj (r:=u.isNone) (.inl ⟨rfl,rfl⟩) A rfl (by intros;simp) (by intros;simp) (by intros;simp) (by intros;simp) (by simp[eqGuard,Act.eval]) z
theorem Src.M6{α:Type}{e:Wr α}{v:Bool×List α}(h:dH O.g y=some (.v (Wr.M6 e) v)):Src O y e v.2:=by
 intro ρ S a w K;have z:=K.slot y (by simp) _ h;simp only[Slot.ok] at z;obtain⟨A,B,C,D,u⟩:=sP.1 (Sp z).1;refine⟨D.2,A,B,C,?_⟩;rcases u with u |⟨b,E,F,G,_,_,H,I⟩
 ·exact .inl u
 ·exact .inr ⟨b,E,F,G,H,I⟩
end
end Go.Sw
namespace Go.Sw
open Go Go.RowKit
def yf(cs:List aAd)(l:List Slot)(new:List (Nat×XB)):Prop:=∀ρ S w,(∀i en,aY new i=some en->ρ i= .of (.slice none 0 0))->bO ρ S w l cs
theorem yf.nil{new:List (Nat×XB)}:yf [] [] new:=fun _ _ _ _=>rfl
theorem yf.cons{cs:List aAd}{l:List Slot}{new:List (Nat×XB)}{α:Type}{e:Wr α}{z:α}{c:List aAd}(h:∀S w,e.ok z S w c)(k:yf cs l new):yf (c++cs) (.v e z::l) new:=fun ρ S w u=>by
 simp only[bO];exact⟨c,cs,rfl,by simp only[Slot.j9];exact h S w,k ρ S w u⟩
theorem yf.ref{cs:List aAd}{l:List Slot}{new:List (Nat×XB)}{en:XB}(i:Nat)(hi:aY new i=some en)(k:yf cs l new):yf (.slice none 0 0::cs) (.ref i::l) new:=fun ρ S w h=>by
 simp only[bO];exact⟨[.slice none 0 0],cs,rfl,by simp only[Slot.j9];rw[h i en hi];exact⟨.inl ⟨_,_,_,rfl⟩,rfl⟩,k ρ S w h⟩
inductive fg:List (Nat×XB)->Prop
 |nil:fg []
 |cons {α:Type} {i:Nat} {T:aAb} {e:Wr α} {r:List (Nat×XB)}:fg r->fg ((i,.arr T e [])::r)
 |dp {α:Type} {i:Nat} {D:DE α} {x:α} {r:List (Nat×XB)}:(∀S w,D.ok x S w (.of (.slice none 0 0)) [])->fg r->fg ((i,.dp D x [])::r)
theorem fg.spec{new:List (Nat×XB)}(h:fg new):∀i en,aY new i=some en->∀ρ S w,en.ok ρ S w (.of (.slice none 0 0)):=by
 induction h with
 |nil=>intro i en h;simp[aY] at h
 |cons _ u=>
  rename_i α i T e r _;intro j en h;simp only[aY] at h;cases hb:Nat.beq i j with
  |true=>rw[hb] at h;simp at h;subst h;intro ρ S w;exact .inl ⟨rfl,rfl⟩
  |false=>rw[hb] at h;exact u j en h
 |dp z _ u=>
  rename_i α i D x r _;intro j en h;simp only[aY] at h;cases hb:Nat.beq i j with
  |true=>rw[hb] at h;simp at h;subst h;intro ρ S w;exact z S w
  |false=>rw[hb] at h;exact u j en h
section
variable {F:YP}{O:AS}{s:Slot}{d:Option Tmp}{ty:aAb}{p:String}{af:Array Edge}{gd:Option (Nat×Bool)}{x y z:aAc}
theorem BI{new:List (Nat×XB)}{xs:Array aAc}{ρ:Nat->LV}{S:Nat->Prop}{a:aAm}{w:aAa}(hn:fg new)(hf:O.free new=true)(K:B3 O xs ρ S a w):
  ∃ρ':Nat->LV,(∀i,aY new i=none->ρ' i=ρ i)/\(∀i en,aY new i=some en->ρ' i= .of (.slice none 0 0))/\B3 O xs ρ' S a w/\qc ρ' (Un S ρ' new) w w new/\Ext S (Un S ρ' new) w w:=by
 let ρ':Nat->LV:=fun i=>if (aY new i).isSome then .of (.slice none 0 0) else ρ i
 have D:∀i,aY new i=none->ρ' i=ρ i:=fun i h=>XV (by simp[h]);have B:∀i en,aY new i=some en->ρ' i= .of (.slice none 0 0):=fun i en h=>YC (by simp[h]);have F:=fun {i en} (h:aY new i=some en)=>lD hf h;have L:∀t s,lk O.g t=some s->mU ρ ρ' s.ZR:=by
  intro t s Q j A;cases hl:aY new j with
  |none=>exact congrArg LV.v (D j hl)
  |some en=>exact absurd A ((F hl).1 t s Q)
 have M:∀i en,aY O.d i=some en->mU ρ ρ' en.ZR:=by
  intro i en G j A;cases hl:aY new j with
  |none=>exact congrArg LV.v (D j hl)
  |some R=>exact absurd A ((F hl).2.2 i en G)
 have N:∀x s,dH O.g x=some s->mU ρ ρ' s.ZR:=by
  intro x s z;cases x with
  |tmp t=>exact L t s z
  |const u=>have:=(Mm z ρ S w).2;intro j A;rw[this] at A;simp at A
  |global g=>cases z
  |func f=>cases z
 refine⟨ρ',D,B,⟨K.low,fun x z s E=>Slot.WY s _ (K.slot x z s E) (Ext.refl S w) (N x s E),fun x z s E i G en H=>?_⟩,⟨fun i en h=>?_,fun i en b h C=>?_,fun i j en R b h h' C _=>?_⟩,⟨ZY _,fun k _ T=>⟨rfl,?_⟩⟩⟩
 ·obtain⟨U,V⟩:=K.G6 x z s E i G en H
  have P:ρ' i=ρ i:=D i (by
   cases hl:aY new i with
   |none=>rfl
   |some e=>have:=(F hl).2.1;rw[H] at this;cases this)
  rw[P];exact⟨XB.WY U (Ext.refl S w) (M i en H) (fun _ _=>rfl),V⟩
 ·rw[B i en h];exact hn.spec i en h _ _ _
 ·rw[B i en h] at C;simp[pN,j1] at C
 ·rw[B i en h] at C;simp[pN,j1] at C
 ·rintro (h |⟨i,en,X,I⟩)
  ·exact T h
  ·rw[B i en X] at I;simp[pN,j1] at I
theorem fO{T:aAb}{pl:Array (Nat×Nat)}{zs:List aAd}{ps:List (Nat×aAc)}{l l':List Slot}{new:List (Nat×XB)}(hB:∀parts,F.P.built T parts=Instr.fill (pl[·]?) zs.toArray parts)(hz:yf zs l new)(hn:fg new)(hf:O.free new=true)(hp:R9 O pl l ps l'):
  JO F ⟨d,.build T ps.toArray,ty,p,af,gd⟩ O (.agg l') new:=by
 intro ρ S a w K;obtain⟨ρ',A,B,C,D,E⟩:=BI hn hf K;obtain⟨h,G,H⟩:=hp.spec (ys:=(Op.build T ps.toArray).operands) (by intro x u;simp[Op.operands] at u ⊢;exact u) C zs (hz ρ' S w B);have z:(Slot.agg l').ok ρ' S w (.agg h.toArray):=by simp only[Slot.ok];exact⟨h,rfl,H⟩
 refine XC.value (w':=w) (v:= .agg h.toArray) ?_ ⟨ρ',A,Below.refl _ _,Slot.WY _ _ z E (fun _ _=>rfl),D⟩;have:=run_build (P:=F.P) w T (ps.map fun q=>(q.1,a.eval q.2)).toArray h.toArray (by rw[hB];exact G);simp only[execOp,aDc];simp[this]
end
end Go.Sw
namespace Go.Sw
open Go Go.RowKit
structure Ins (S:Nat->Prop) (ρ:Nat->LV) (w:aAa) (ZL:List (Nat×XB)):Prop where
 own:∀i en,aY ZL i=some en->en.ok ρ (Un S ρ ZL) w (ρ i)
 lt:∀i en b,aY ZL i=some en->qX (ρ i) b->b<w.heap.size
 apart:∀i en b,aY ZL i=some en->qX (ρ i) b->¬S b
 inj:∀i j en en' b,aY ZL i=some en->aY ZL j=some en'->qX (ρ i) b->qX (ρ j) b->i=j
structure iv (S:Nat->Prop) (R:Nat->Prop) (w0:aAa) (res:Slot) (XJ:List (Nat×XB)) (ρ:Nat->LV) (v:aAd) (w:aAa):Prop where
 size:w0.heap.size<=w.heap.size
 frame:∀k,k<w0.heap.size->¬R k->w.heap[k]? =w0.heap[k]?
 os:w.os=w0.os
 tape:w.tape=w0.tape
 output:w.output=w0.output
 slot:res.ok ρ (Un S ρ XJ) w v
 own:∀i en,aY XJ i=some en->en.ok ρ (Un S ρ XJ) w (ρ i)
 fresh:∀i en b,aY XJ i=some en->qX (ρ i) b->(w0.heap.size<=b\/R b)/\b<w.heap.size
 apart:∀i en b,aY XJ i=some en->qX (ρ i) b->¬S b
 inj:∀i j en en' b,aY XJ i=some en->aY XJ j=some en'->qX (ρ i) b->qX (ρ j) b->i=j
def XA(P:aAe)(f:aAf)(args:List Slot)(ZL:List (Nat×XB))(res:Slot)(XJ:List (Nat×XB)):Prop:=
 ∀S w vs ρ,(∀k,S k->k<w.heap.size)->Ins S ρ w ZL->aX ρ (Un S ρ ZL) w args vs->Calls P f vs.toArray w fun e h=>∃v ρ',e= .returned v/\iv S (mV ρ ZL) w res XJ ρ' v h
def Ab(F:YP)(fn:Func)(res:Slot)(XJ:List (Nat×XB)):aAl->aAm->aAa->Prop:=
 bodyPostM Fence.wide 0 F.P fn fun e h=>∃v ρ',e= .returned v/\iv F.S0 F.R F.w0 res XJ ρ' v h
theorem XA.of{P:aAe}{f:aAf}{fn:Func}{c:aAj}{N:Nat}{args:List Slot}{ZL:List (Nat×XB)}{res:Slot}{XJ:List (Nat×XB)}
  (hf:P.funcs[f]? =some fn) (hb:fn.body=some c) (hN:fn.ntmps=N) (hle:Nat.ble args.length N=true)
  (h:∀S w R,al ⟨P,N,S,w,R,none,[]⟩ ⟨P,N,S,w,R,none,[]⟩->W ⟨P,N,S,w,R,none,[]⟩ [c] ⟨enum 0 args,ZL⟩ (Ab ⟨P,N,S,w,R,none,[]⟩ fn res XJ)):XA P f args ZL res XJ:=by
 intro S w vs ρ r8 F6 hv;refine(callsIn_wide (n:=0)).1 (callsIn_of_wp_marks hf hb trivial ?_);have G:=Hm hv;have hle:=E7 hle;have B:St ⟨P,N,S,w,mV ρ ZL,none,[]⟩ ⟨enum 0 args,ZL⟩ { tmps:=vs.toArray++Array.replicate (fn.ntmps - vs.toArray.size) undef,defers:=[] } w:= ?_
 ·have z:c.wpIn Fence.wide 0 P (Exit.then (run Fence.wide P (Ab ⟨P,N,S,w,mV ρ ZL,none,[]⟩ fn res XJ) []) (Ab ⟨P,N,S,w,mV ρ ZL,none,[]⟩ fn res XJ)) { tmps:=vs.toArray++Array.replicate (fn.ntmps - vs.toArray.size) undef,defers:=[] } w:=h S w _ (.refl r8 rfl) _ w B;refine wpIn_mono z ?_;intro e a H D;cases e<;>exact D
 ·refine⟨⟨ρ,⟨r8,ZY _,fun _ _ _=>rfl,rfl,rfl,rfl,F6.own,fun i A b h hb=>⟨.inr ⟨i,A,h,hb⟩,F6.lt i A b h hb⟩,F6.inj,F6.apart⟩,fun t s E=>?_⟩,?_,rfl⟩
  ·obtain⟨_,u,z,F⟩:=Mp args vs 0 hv t s E;have C:t<vs.length:=by
    rcases R8 t vs.length with h | h
    ·exact h
    ·simp[dc h] at z
   have:(vs.toArray++Array.replicate (fn.ntmps - vs.toArray.size) undef).getD t undef=u:=by
    simp only[sf];rw[aDn (by simpa using C)];simp only[Nat.sub_zero] at z;simp[z]
   rw[this];exact F
  ·simp only[aEm,aEn,aD9];show _=N;omega
theorem iv.C1{F:YP}{O:AS}{ρ:Nat->LV}{w:aAa}{v:aAd}{res:Slot}{XJ:List (Nat×XB)}(hc:Core F O.d ρ w)(hr:res.ok ρ (Un F.S0 ρ O.d) w v)(hn:G0 XJ O.d):iv F.S0 F.R F.w0 res XJ ρ v w:=by
 have z:=hn.spec
 have B:Ext (Un F.S0 ρ O.d) (Un F.S0 ρ XJ) w w:=⟨ZY _,fun k _ D=>⟨rfl,fun h=>D (by
  rcases h with h |⟨i,u,K,L⟩
  ·exact .inl h
  ·exact .inr ⟨i,u,z i u K,L⟩)⟩⟩
 exact⟨hc.size,hc.frame,hc.os,hc.tape,hc.output,Slot.WY res v hr B (fun _ _=>rfl),fun i u h=>XB.WY (hc.own i u (z i u h)) B (fun _ _=>rfl) (fun _ _=>rfl),
  fun i u b h A=>hc.fresh i u b (z i u h) A,fun i u b h A=>hc.apart i u b (z i u h) A,fun i j u C b E G H I=>hc.inj i j u C b (z i u E) (z j C G) H I⟩
theorem Uy{P:aAe}{fn:Func}{a:aAm}{w:aAa}(F4:fn.results= #[]):(results fn a.tmps).run P w= .ok (.tuple #[]) w:=by rw[xS,F4];simp
section
variable {F F':YP}{O:AS}{fn:Func}{rv ly rv2:ResultVar}{res s s' s2:Slot}{XJ:List (Nat×XB)}
theorem HN(hF:al F F')(F4:fn.results= #[])(hn:G0 XJ O.d):XQ F' O (Ab F fn (.XU []) XJ) .ret:=
 yU hF fun ρ a w h u=>⟨_,Uy F4,_,ρ,rfl,iv.C1 h (by simp only[Slot.ok];exact⟨[],rfl,by simp only[aX]⟩) hn⟩
theorem eM(hF:al F F')(F4:fn.results= #[rv])(h:RV F O rv res)(hn:G0 XJ O.d):XQ F' O (Ab F fn res XJ) .ret:=
 yU hF fun ρ a w u z=>by
  obtain⟨v,A,B⟩:=h ρ a w u z;exact⟨v,Ur F4 A,v,ρ,rfl,iv.C1 u B hn⟩
theorem eA(hF:al F F')(F4:fn.results= #[rv,ly])(h:RV F O rv s)(h':RV F O ly s')(hn:G0 XJ O.d):XQ F' O (Ab F fn (.XU [s,s']) XJ) .ret:=
 yU hF fun ρ a w u z=>by
  obtain⟨v,A,B⟩:=h ρ a w u z;obtain⟨E,C,D⟩:=h' ρ a w u z;exact⟨_,Us F4 A C,_,ρ,rfl,iv.C1 u (SY B D) hn⟩
theorem Ac(hF:al F F')(F4:fn.results= #[rv,ly,rv2])(h:RV F O rv s)(h':RV F O ly s')(h'':RV F O rv2 s2)(hn:G0 XJ O.d):XQ F' O (Ab F fn (.XU [s,s',s2]) XJ) .ret:=
 yU hF fun ρ a w u z=>by
  obtain⟨v,A,B⟩:=h ρ a w u z;obtain⟨H,C,D⟩:=h' ρ a w u z;obtain⟨I,E,G⟩:=h'' ρ a w u z;exact⟨_,Ut F4 A C E,_,ρ,rfl,iv.C1 u (SZ B D G) hn⟩
end
end Go.Sw
namespace Go.Sw
open Go Go.RowKit
inductive E5 (O:AS) (r:Nat->Nat) (A:Nat->Nat):List (Nat×XB)->Prop
 |nil:E5 O r A []
 |box {i:Nat} {T:aAb} {l:List Slot} {pb:Option Nat} {ds:List (Nat×XB)}:aY O.d (r i)=some (.box T (fN r l) pb)->E5 O r A ds->E5 O r A ((i,.box T l (some (A i)))::ds)
 |arr {α:Type} {i:Nat} {T:aAb} {e:Wr α} {xs:List α} {ds:List (Nat×XB)}:aY O.d (r i)=some (.arr T e xs)->E5 O r A ds->E5 O r A ((i,.arr T e xs)::ds)
 |mp {α β:Type} {i:Nat} {e:Wr α} {f:Wr β} {m:List (α×β)} {ds:List (Nat×XB)}:aY O.d (r i)=some (.mp e f m)->E5 O r A ds->E5 O r A ((i,.mp e f m)::ds)
 |dp {α:Type} {i:Nat} {D:DE α} {x:α} {l:List Nat} {ds:List (Nat×XB)}:aY O.d (r i)=some (.dp D x (l.map r))->E5 O r A ds->E5 O r A ((i,.dp D x l)::ds)
theorem E5.spec{O:AS}{r:Nat->Nat}{A:Nat->Nat}{ds:List (Nat×XB)}(h:E5 O r A ds){ρ:Nat->LV}{S:Nat->Prop}{w:aAa}(ho:∀i en,aY O.d i=some en->en.ok ρ S w (ρ i))(hA:∀i b,(ρ (r i)).v= .pointer (some ⟨b,0,none⟩)->A i=b):
  ∀i en,aY ds i=some en->(∃j6,aY O.d (r i)=some j6)/\en.ok (fun i=>ρ (r i)) S w (ρ (r i)):=by
 induction h with
 |nil=>intro i en h;simp[aY] at h
 |box u _ B=>
  rename_i j T l G ds _;intro i en h;rw[cN] at h;split at h
  ·rename_i z;subst z;cases h;have F:=ho _ _ u;refine⟨⟨_,u⟩,?_⟩;have C:((XB.box T l G).map r).ok ρ S w (ρ (r j)):=F;rw[Ho] at C;obtain⟨⟨b,I,E,K,L⟩,_⟩:=C;exact⟨⟨b,I,E,K,L⟩,fun c H=>by cases H;rw[E,hA j b E]⟩
  ·exact B i en h
 |arr u _ B=>
  rename_i j T e xs ds _;intro i en h;rw[cN] at h;split at h
  ·rename_i z;subst z;cases h;exact⟨⟨_,u⟩,ho _ _ u⟩
  ·exact B i en h
 |mp u _ B=>
  rename_i j e f m ds _;intro i en h;rw[cN] at h;split at h
  ·rename_i z;subst z;cases h;exact⟨⟨_,u⟩,ho _ _ u⟩
  ·exact B i en h
 |dp u _ B=>
  rename_i j D x l ds _;intro i en h;rw[cN] at h;split at h
  ·rename_i z;subst z;cases h;refine⟨⟨_,u⟩,?_⟩;have C:((XB.dp D x l).map r).ok ρ S w (ρ (r j)):=ho _ _ u
   rwa [Ho] at C
  ·exact B i en h
def iL(l:Nat):List Nat->Bool
 | []=>false
 |i::r=>bif Nat.beq i l then true else iL l r
theorem jF{l:Nat}:∀{r:List Nat},iL l r=true↔l∈r
 | []=>by simp[iL]
 |i::r=>by
  simp only[iL];cases hb:Nat.beq i l with
  |true=>have:=D6 hb;subst this;simp
  |false=>
   have:l≠i:=fun e=>by subst e;simp at hb
   simp[jF,this]
inductive l3 (O:AS) (r:Nat->Nat) (A:Nat->Nat):List (Nat×XB)->List (Nat×XB)->List Nat->Prop
 |nil:l3 O r A [] [] []
 |box {i:Nat} {T T0:aAb} {l l0:List Slot} {pb:Option Nat} {ds D:List (Nat×XB)} {K:List Nat}:aY O.d (r i)=some (.box T0 l0 pb)->l3 O r A ds D K->iL (r i) K=false->l3 O r A ((i,.box T l (some (A i)))::ds) ((r i,.box T (fN r l) pb)::D) (r i::K)
 | Y9 {i:Nat} {T:aAb} {l:List Slot} {ds D:List (Nat×XB)} {K:List Nat}:l3 O r A ds D K->iL (r i) K=false->l3 O r A ((i,.box T l none)::ds) ((r i,.box T (fN r l) none)::D) K
 |arr {α:Type} {i:Nat} {T:aAb} {e:Wr α} {xs:List α} {ds D:List (Nat×XB)} {K:List Nat}:l3 O r A ds D K->iL (r i) K=false->l3 O r A ((i,.arr T e xs)::ds) ((r i,.arr T e xs)::D) K
 |mp {α β:Type} {i:Nat} {e:Wr α} {f:Wr β} {m:List (α×β)} {ds D:List (Nat×XB)} {K:List Nat}:l3 O r A ds D K->iL (r i) K=false->l3 O r A ((i,.mp e f m)::ds) ((r i,.mp e f m)::D) K
 |dp {α:Type} {i:Nat} {E:DE α} {x:α} {l:List Nat} {ds D:List (Nat×XB)} {K:List Nat}:l3 O r A ds D K->iL (r i) K=false->l3 O r A ((i,.dp E x l)::ds) ((r i,.dp E x (l.map r))::D) K
theorem l3.spec{O:AS}{r:Nat->Nat}{A:Nat->Nat}{ds D:List (Nat×XB)}{K:List Nat}(h:l3 O r A ds D K)(bA5:∀i j,r i=r j->i=j):
  (∀l en',aY D l=some en'->∃i en,l=r i/\aY ds i=some en/\(en'=en.map r\/∃T T0 m l0 pb,en= .box T m (some (A i))/\en'= .box T (fN r m) pb/\aY O.d (r i)=some (.box T0 l0 pb)))/\
  (∀i en,aY ds i=some en->∃en',aY D (r i)=some en')/\(∀k∈K,∃i T m T0 l0 pb,k=r i/\aY ds i=some (.box T m (some (A i)))/\aY O.d k=some (.box T0 l0 pb)):=by
 have step:∀{i:Nat} {en en':XB} {ds D:List (Nat×XB)},((∀l en',aY D l=some en'->∃i en,l=r i/\aY ds i=some en/\(en'=en.map r\/∃T T0 m l0 pb,en= .box T m (some (A i))/\en'= .box T (fN r m) pb/\aY O.d (r i)=some (.box T0 l0 pb)))/\(∀i en,aY ds i=some en->∃en',aY D (r i)=some en'))->
   (en'=en.map r\/∃T T0 m l0 pb,en= .box T m (some (A i))/\en'= .box T (fN r m) pb/\aY O.d (r i)=some (.box T0 l0 pb))->
   ((∀l B,aY ((r i,en')::D) l=some B->∃j C,l=r j/\aY ((i,en)::ds) j=some C/\(B=C.map r\/∃T T0 m l0 pb,C= .box T m (some (A j))/\B= .box T (fN r m) pb/\aY O.d (r j)=some (.box T0 l0 pb)))/\
    (∀j C,aY ((i,en)::ds) j=some C->∃B,aY ((r i,en')::D) (r j)=some B)):=by
  rintro i en en' ds D ⟨V,X⟩ hh;refine⟨fun l B H=>?_,fun j C M=>?_⟩
  ·rw[cN] at H;split at H
   ·rename_i I;subst I;cases H;exact⟨i,en,rfl,by rw[cN,YC rfl],hh⟩
   ·rename_i I;obtain⟨j,C,rfl,Q,R⟩:=V l B H;exact⟨j,C,rfl,by rw[cN,XV (fun e=>I (by rw[e]))];exact Q,R⟩
  ·rw[cN] at M;split at M
   ·rename_i L;subst L;exact⟨en',by rw[cN,YC rfl]⟩
   ·rename_i L;obtain⟨B,S⟩:=X j C M;exact⟨B,by rw[cN,XV (fun e=>L (bA5 _ _ e))];exact S⟩
 have G:∀{i:Nat} {en:XB} {ds:List (Nat×XB)} {K:List Nat},iL (r i) K=false->(∀k∈K,∃i T m T0 l0 pb,k=r i/\aY ds i=some (.box T m (some (A i)))/\aY O.d k=some (.box T0 l0 pb))->∀k∈K,∃j T m T0 l0 pb,k=r j/\aY ((i,en)::ds) j=some (.box T m (some (A j)))/\aY O.d k=some (.box T0 l0 pb):=by
  intro i en ds K z u k F;obtain⟨j,T,m,T0,l0,pb,rfl,h,U⟩:=u k F;have P:i≠j:=fun e=>by subst e;rw[jF.2 F] at z;cases z
  exact⟨j,T,m,T0,l0,pb,rfl,by rw[cN,XV P];exact h,U⟩
 induction h with
 |nil=>exact⟨fun l en h=>by simp[aY] at h,fun i en h=>by simp[aY] at h,fun k h=>by simp at h⟩
 |box N _ z u=>
  rename_i i T T0 l l0 pb ds D K _;obtain⟨a,b⟩:=step (i:=i) (en:= .box T l (some (A i))) (en':= .box T (fN r l) pb) ⟨u.1,u.2.1⟩ (.inr ⟨T,T0,l,l0,pb,rfl,rfl,N⟩);refine⟨a,b,fun k F=>?_⟩;rcases B1.1 F with rfl | F
  ·exact⟨i,T,l,T0,l0,pb,rfl,by rw[cN,YC rfl],N⟩
  ·exact G z u.2.2 k F
 | Y9 _ z u=>
  rename_i i T l ds D K _;obtain⟨a,b⟩:=step (i:=i) (en:= .box T l none) (en':= .box T (fN r l) none) ⟨u.1,u.2.1⟩ (.inl rfl);exact⟨a,b,G z u.2.2⟩
 |arr _ z u=>
  rename_i α i T e xs ds D K _;obtain⟨a,b⟩:=step (i:=i) (en:= .arr T e xs) (en':= .arr T e xs) ⟨u.1,u.2.1⟩ (.inl rfl);exact⟨a,b,G z u.2.2⟩
 |mp _ z u=>
  rename_i α β i e f m ds D K _;obtain⟨a,b⟩:=step (i:=i) (en:= .mp e f m) (en':= .mp e f m) ⟨u.1,u.2.1⟩ (.inl rfl);exact⟨a,b,G z u.2.2⟩
 |dp _ z u=>
  rename_i α i E x l ds D K _;obtain⟨a,b⟩:=step (i:=i) (en:= .dp E x l) (en':= .dp E x (l.map r)) ⟨u.1,u.2.1⟩ (.inl rfl);exact⟨a,b,G z u.2.2⟩
def jC(d:List (Nat×XB)):List Nat->List (Nat×XB)
 | []=>d
 |i::H=>wN (jC d H) i
theorem qI{d:List (Nat×XB)}{k:Nat}:∀{H:List Nat},aY (jC d H) k=if k∈H then none else aY d k
 | []=>by simp[jC]
 |i::H=>by
  rw[jC,Lv];by_cases h:k=i
  ·simp[h]
  ·rw[XV h,qI];simp[h]
def Bk(g:List (Nat×Slot))(rest:List (Nat×XB))(H K:List Nat)(D:List (Nat×XB)):Bool:=
 (g.all fun y=>y.2.ZR.all fun l=> !iL l H || iL l K || !iL l (D.map (·.1))) && rest.all fun y=>y.2.ZR.all fun l=> !iL l H || iL l K || !iL l (D.map (·.1))
def Ps(O:AS)(H:List Nat)(D:List (Nat×XB)):Bool:=
 D.all fun x=>iL x.1 H || ((O.d.all fun y=> !Nat.beq y.1 x.1 && !iL x.1 y.2.ZR) && O.g.all fun y=> !iL x.1 y.2.ZR)
inductive E9 (O:AS) (r:Nat->Nat):List aAc->List Slot->Prop
 |nil:E9 O r [] []
 |cons {x:aAc} {s:Slot} {xs:List aAc} {l:List Slot}:Arg O false x (s.map r)->E9 O r xs l->E9 O r (x::xs) (s::l)
theorem E9.spec{O:AS}{r:Nat->Nat}{xs:List aAc}{l:List Slot}(h:E9 O r xs l){ρ S a w}{ys:Array aAc}(eu:∀x∈xs,x∈ys)(K:B3 O ys ρ S a w):aX (fun i=>ρ (r i)) S w l (xs.map a.eval):=by
 induction h with
 |nil=>simp[aX]
 |cons z _ A=>
  rename_i x s xs l _;simp only[aX,L4];refine⟨_,_,rfl,?_,A fun y u=>eu y (cz _ u)⟩;rw[<-Ms];exact z ρ S a w ⟨K.low,fun y u=>K.slot y (by simp at u;subst u;exact eu _ dg),fun y u=>K.G6 y (by simp at u;subst u;exact eu _ dg)⟩
def B0(v:aAd):Nat:=match v with | .pointer (some a)=>a.block | _=>0
section
variable {F:YP}{O:AS}{s:Slot}{d:Option Tmp}{ty:aAb}{p:String}{af:Array Edge}{gd:Option (Nat×Bool)}
theorem St.N2{ρ ρ':Nat->LV}{r:Nat->Nat}{A:Nat->Nat}{a:aAm}{w w':aAa}{v:aAd}{res:Slot}{ZL XJ D:List (Nat×XB)}{K H:List Nat}(hr:∀i j,r i=r j->i=j)(hc:Core F O.d ρ w)
  (hs:∀t s,lk O.g t=some s->s.ok ρ (Un F.S0 ρ O.d) w (a.tmps.getD t undef)) (hz:a.tmps.size=F.N) (j4:a.defers=F.df) (hA:∀i b,(ρ (r i)).v= .pointer (some ⟨b,0,none⟩)->A i=b) (F6:E5 O r A ZL) (I4:l3 O r A XJ D K)
  (hH:ZL.map (fun x=>r x.1)=H) (ZM:Bk O.g (jC O.d H) H K D=true) (U6:Ps O H D=true) (ZW:lG res XJ=true) (lq:K.all (fun k=>iL k H)=true) (p8:gS d F.N=true)
  (ho:iv (fun k=>Un F.S0 ρ O.d k/\¬mV (fun i=>ρ (r i)) ZL k) (mV (fun i=>ρ (r i)) ZL) w res XJ ρ' v w'):St F ⟨iV d (res.map r) O.g,D++jC O.d H⟩ (a.put d v) w':=by
 obtain⟨aa,a6,a7⟩:=I4.spec hr;have ah:=F6.spec hc.own hA;have ai:∀i en,aY ZL i=some en->r i∈H:=fun i en h=>by rw[<-hH];exact fx.2 ⟨(i,en),mW h,rfl⟩
 have aj:∀l,l∈H->∃i en,l=r i/\(i,en)∈ZL:=fun l h=>by rw[<-hH] at h;obtain⟨x,B,z⟩:=fx.1 h;exact⟨x.1,x.2,z.symm,B⟩
 have a9:∀l,l∈H->∃i en,l=r i/\aY ZL i=some en:=fun l h=>by
  obtain⟨i,en,B,z⟩:=aj l h;cases hx:aY ZL i with
  |some e=>exact⟨i,e,B,hx⟩
  |none=>
   exfalso;clear F6 ah hH ho ai aj
   induction ZL with
   |nil=>simp at z
   |cons y ZL ih=>
    obtain⟨j,ej⟩:=y;rw[cN] at hx;split at hx
    ·cases hx
    ·rename_i Y0;rcases B1.1 z with z | z
     ·simp at z;exact Y0 z.1.symm
     ·exact ih z hx
 have E0:∀k,mV (fun i=>ρ (r i)) ZL k->∃l en,l∈H/\aY O.d l=some en/\qX (ρ l) k:=by
  rintro k ⟨i,en,B,z⟩;obtain⟨⟨j6,u⟩,_⟩:=ah i en B;exact⟨r i,j6,ai i en B,u,z⟩
 have am:∀k,mV (fun i=>ρ (r i)) ZL k->Un F.S0 ρ O.d k:=fun k h=>by obtain⟨l,en,_,B,z⟩:=E0 k h;exact .inr ⟨l,en,B,z⟩
 have q8:∀l en k,l∉H->aY O.d l=some en->qX (ρ l) k->¬mV (fun i=>ρ (r i)) ZL k:=by
  intro l en k R B z u;obtain⟨M,C,E,G,L⟩:=E0 k u;exact R (hc.inj l M en C k B G z L ▸ E)
 classical
 let ρn:Nat->LV:=fun l=>if h:∃i,l=r i/\(aY XJ i).isSome=true then ρ' (Classical.choose h) else ρ l
 have S:∀i en,aY XJ i=some en->ρn (r i)=ρ' i:=by
  intro i en h;have ae:∃j,r i=r j/\(aY XJ j).isSome=true:=⟨i,rfl,by rw[h];rfl⟩;show (if h:∃j,r i=r j/\(aY XJ j).isSome=true then ρ' (Classical.choose h) else ρ (r i))=_;rw[dif_pos ae];have:=aD4 ae;rw[<-hr _ _ this.1]
 have ln:∀l,(∀en,aY D l≠some en)->ρn l=ρ l:=by
  intro l h;have ae:¬∃i,l=r i/\(aY XJ i).isSome=true:=by
   rintro⟨i,rfl,z⟩;cases hx:aY XJ i with
   |none=>rw[hx] at z;cases z
   |some en=>obtain⟨C,u⟩:=a6 i en hx;exact h _ u
  show (if h:∃i,l=r i/\(aY XJ i).isSome=true then ρ' (Classical.choose h) else ρ l)=_;rw[dif_neg ae]
 have hK:∀l,l∈K->(ρn l).v=(ρ l).v:=by
  intro l R;obtain⟨i,T,m,T0,l0,pb,rfl,B,z⟩:=a7 l R;have ay:=(ho.own i _ B).2 (A i) rfl;obtain⟨⟨b,cs,h8,_⟩,_⟩:=hc.own _ _ z;rw[S i _ B,ay,h8,hA i b h8]
 have a0:∀l,iL l (D.map (·.1))=false->∀en,aY D l≠some en:=fun l h en U=>by
  have B:l∈D.map (·.1):=fx.2 ⟨(l,en),mW U,rfl⟩;rw[jF.2 B] at h;cases h
 have E2:∀(q:Slot),(q.ZR.all fun l=> !iL l H || iL l K || !iL l (D.map (·.1)))=true->(∀l∈q.ZR,aY D l=none\/iL l H=true)->mU ρ ρn q.ZR:=by
  intro q B z l R;rcases z l R with u | u
  ·exact congrArg LV.v (ln l fun en U=>by rw[u] at U;cases U)
  ·have:=y8.1 B l R;rw[u] at this;cases hm:iL l (D.map (·.1)) with
   |false=>exact congrArg LV.v (ln l (a0 l hm))
   |true=>rw[hm] at this;exact hK l (jF.1 (by simpa using this))
 have vu:∀l en,aY D l=some en->iL l H=true\/((∀y∈O.d,y.1≠l/\l∉y.2.ZR)/\∀y∈O.g,l∉y.2.ZR):=by
  intro l en h;have:=y8.1 U6 _ (mW h);rcases Bool.or_eq_true_iff.1 this with h | h
  ·exact .inl h
  ·rw[K0,y8,y8] at h;refine .inr ⟨fun y hy=>?_,fun y hy V2=>?_⟩
   ·have u:=h.1 y hy;rw[K0] at u;refine⟨fun e=>?_,fun V2=>?_⟩
    ·have:=u.1;rw[e] at this;simp at this
    ·have:=u.2;rw[jF.2 V2] at this;cases this
   ·have:=h.2 y hy;rw[jF.2 V2] at this;cases this
 simp only[Bk,K0,y8] at ZM;have xz:∀t s,lk O.g t=some s->mU ρ ρn s.ZR:=by
  intro t s P;refine E2 s (y8.2 (ZM.1 _ (Mn P))) fun l R=>?_;cases hx:aY D l with
  |none=>exact .inl rfl
  |some en=>
   rcases vu l en hx with h |⟨_,h⟩
   ·exact .inr h
   ·exact absurd R (h _ (Mn P))
 have U4:∀l en,l∉H->aY O.d l=some en->ρn l=ρ l/\mU ρ ρn en.ZR:=by
  intro l en R h;refine⟨ln l fun C U=>?_,?_⟩
  ·rcases vu l C U with Q |⟨Q,_⟩
   ·exact R (jF.1 Q)
   ·exact(Q _ (mW h)).1 rfl
  ·have ZK:(l,en)∈jC O.d H:=mW (by rw[qI,XV R];exact h);have:=ZM.2 _ ZK;intro q hq;have B:=this q hq;cases hx:aY D q with
   |none=>exact congrArg LV.v (ln q fun en U=>by rw[hx] at U;cases U)
   |some C=>
    rcases vu q C hx with Q |⟨Q,_⟩
    ·have E6:q∈D.map (·.1):=fx.2 ⟨(q,C),mW hx,rfl⟩;rw[Q,jF.2 E6] at B;exact hK q (jF.1 (by simpa using B))
    ·exact absurd hq (Q _ (mW h)).2
 have U7:∀l en,aY (D++jC O.d H) l=some en->aY D l=some en\/(aY D l=none/\l∉H/\aY O.d l=some en):=by
  intro l en h;rw[gO] at h;cases hx:aY D l with
  |some e=>rw[hx] at h;simp at h;subst h;exact .inl rfl
  |none=>
   rw[hx] at h;simp only[Option.none_or,qI] at h;split at h
   ·cases h
   ·rename_i hn;exact .inr ⟨rfl,hn,h⟩
 have an:∀k,Un F.S0 ρn (D++jC O.d H) k->Un (fun k=>Un F.S0 ρ O.d k/\¬mV (fun i=>ρ (r i)) ZL k) ρ' XJ k:=by
  rintro k (h |⟨l,en,B,z⟩)
  ·refine .inl ⟨.inl h,fun Q=>?_⟩;obtain⟨l,en,_,u,E⟩:=E0 k Q;exact hc.apart l en k u E h
  ·rcases U7 l en B with u |⟨_,u,E⟩
   ·obtain⟨i,C,rfl,G,_⟩:=aa l en u;rw[S i C G] at z;exact .inr ⟨i,C,G,z⟩
   ·rw[(U4 l en u E).1] at z;exact .inl ⟨.inr ⟨l,en,E,z⟩,q8 l en k u E z⟩
 have a1:∀k,k<w.heap.size->Un (fun k=>Un F.S0 ρ O.d k/\¬mV (fun i=>ρ (r i)) ZL k) ρ' XJ k->Un F.S0 ρ O.d k:=by
  rintro k V (h |⟨i,en,B,z⟩)
  ·exact h.1
  ·rcases (ho.fresh i en k B z).1 with h | h
   ·omega
   ·exact am k h
 have ap:Ext (Un (fun k=>Un F.S0 ρ O.d k/\¬mV (fun i=>ρ (r i)) ZL k) ρ' XJ) (Un F.S0 ρn (D++jC O.d H)) w' w':=⟨ZY _,fun k _ V=>⟨rfl,fun h=>V (an k h)⟩⟩;have hE:Ext (Un F.S0 ρ O.d) (Un F.S0 ρn (D++jC O.d H)) w w':=⟨ho.size,fun k V hn=>⟨ho.frame k V (fun h=>hn (am k h)),fun h=>hn (a1 k V (an k h))⟩⟩;simp only[lG,K0,y8] at ZW;have fo:∀i en,aY XJ i=some en->mU ρ' (fun i=>ρn (r i)) en.ZR:=by
  intro i en h j hj;have:=ZW.2 _ (mW h) j hj;cases hx:aY XJ j with
  |none=>rw[hx] at this;cases this
  |some e=>exact congrArg LV.v (S j e hx)
 have a2:Core F (D++jC O.d H) ρn w':=by
  refine⟨hc.low,ik hc.size ho.size,fun k V mn=>?_,ho.os.trans hc.os,ho.tape.trans hc.tape,ho.output.trans hc.output,fun l en h=>?_,fun l en b h I=>?_,fun l M en C b h Q I X=>?_,fun l en b h I=>?_⟩
  ·rw[ho.frame k (X0 V hc.size) (fun h=>?_)]
   ·exact hc.frame k V mn
   ·obtain⟨l,en,_,B,z⟩:=E0 k h;rcases (hc.fresh l en k B z).1 with u | u
    ·omega
    ·exact mn u
  ·rcases U7 l en h with u |⟨_,u,E⟩
   ·obtain⟨i,C,rfl,G,L⟩:=aa l en u;have h7:=XB.WY (ρ':=fun i=>ρn (r i)) (ho.own i C G) ap (fo i C G) (fun _ _=>rfl);rw[S i C G];rcases L with L |⟨T,T0,m,l0,pb,h8,h9,Y8⟩
    ·rw[L,Ho];exact h7
    ·subst h8 h9;obtain⟨nq,np⟩:=h7;have a3:((XB.box T m none).map r).ok ρn (Un F.S0 ρn (D++jC O.d H)) w' (ρ' i):=(by rw[Ho];exact⟨nq,fun c hc=>by cases hc⟩);refine⟨a3.1,fun c a5=>?_⟩;obtain⟨_,a8⟩:=hc.own _ _ Y8;have a4:=a8 c a5;rw[np (A i) rfl,hA i c a4]
   ·obtain⟨G,L⟩:=U4 l en u E;rw[G];exact XB.WY (hc.own l en E) hE L (fun b I=>ho.frame b (hc.fresh l en b E I).2 (q8 l en b u E I))
  ·rcases U7 l en h with u |⟨_,u,E⟩
   ·obtain⟨i,C,rfl,G,_⟩:=aa l en u;rw[S i C G] at I;obtain⟨L,h7⟩:=ho.fresh i C b G I;refine⟨?_,h7⟩;rcases L with L | L
    ·exact .inl (ik hc.size L)
    ·obtain⟨M,e',_,h8,h9⟩:=E0 b L;exact(hc.fresh M e' b h8 h9).1
   ·rw[(U4 l en u E).1] at I;exact⟨(hc.fresh l en b E I).1,X0 (hc.fresh l en b E I).2 ho.size⟩
  ·have au:∀i fu l2 af,aY XJ i=some fu->qX (ρ' i) b->l2∉H->aY O.d l2=some af->qX (ρ l2) b->False:=by
    intro i fu l2 af B z u E G;rcases (ho.fresh i fu b B z).1 with L | L
    ·have:=(hc.fresh l2 af b E G).2;omega
    ·exact q8 l2 af b u E G L
   rcases U7 l en h with u |⟨_,u,E⟩
   ·obtain⟨i,e1,rfl,G,_⟩:=aa l en u;rw[S i e1 G] at I;rcases U7 M C Q with lr |⟨_,lr,ad⟩
    ·obtain⟨i',ab,rfl,ac,_⟩:=aa M C lr;rw[S i' ab ac] at X;rw[ho.inj i i' e1 ab b G ac I X]
    ·rw[(U4 M C lr ad).1] at X;exact(au i e1 M C G I lr ad X).elim
   ·rw[(U4 l en u E).1] at I;rcases U7 M C Q with lr |⟨_,lr,ad⟩
    ·obtain⟨i',ab,rfl,ac,_⟩:=aa M C lr;rw[S i' ab ac] at X;exact(au i' ab l en ac X u E I).elim
    ·rw[(U4 M C lr ad).1] at X;exact hc.inj l M en C b E ad I X
  ·rcases U7 l en h with u |⟨_,u,E⟩
   ·obtain⟨i,C,rfl,G,_⟩:=aa l en u;rw[S i C G] at I;intro L;refine ho.apart i C b G I ⟨.inl L,fun h7=>?_⟩;obtain⟨M,e',_,h8,h9⟩:=E0 b h7;exact hc.apart M e' b h8 h9 L
   ·rw[(U4 l en u E).1] at I;exact hc.apart l en b E I
 refine⟨⟨ρn,a2,fun t q P=>?_⟩,by rw[lE,hz],by cases d<;>exact j4⟩;have av:∀t q,lk O.g t=some q->q.ok ρn (Un F.S0 ρn (D++jC O.d H)) w' (a.tmps.getD t undef):=fun t q P=>Slot.WY q _ (hs t q P) hE (xz t q P);cases d with
 |none=>exact av t q P
 |some q0=>
  simp only[iV] at P;have YI:q0<a.tmps.size:=by rw[hz];exact E7 p8
  rw[lF a q0 v t YI];rw[mN] at P;split at P
  ·rename_i B;cases P;rw[YC B,Ms];refine Slot.WY res v ho.slot ap fun j hj=>?_;have:=ZW.1 j hj;cases hx:aY XJ j with
   |none=>rw[hx] at this;cases this
   |some e=>exact congrArg LV.v (S j e hx)
  ·rename_i B;rw[XV B];exact av t q P
theorem tA{f:aAf}{xs:List aAc}{ts:Array aAb}{ss:List Slot}{res:Slot}{ZL XJ:(Nat->Nat)->List (Nat×XB)}{D:List (Nat×XB)}{K H:List Nat}(r:Nat->Nat)(hr:∀i j,r i=r j->i=j)
  (hc:∀A,XA F.P f ss (ZL A) res (XJ A)) (ZE:∀args w,(callFunc f args).run F.P w= .ok (.enter f args) w) (ha:E9 O r xs ss) (F6:∀A,E5 O r A (ZL A)) (I4:∀A,l3 O r A (XJ A) D K)
  (hH:∀A,(ZL A).map (fun x=>r x.1)=H) (ZM:Bk O.g (jC O.d H) H K D=true) (U6:Ps O H D=true) (ZW:∀A,lG res (XJ A)=true) (lq:K.all (fun k=>iL k H)=true) (p8:gS d F.N=true):
  JM F ⟨d,.call ⟨.value (.func f),xs.toArray,ts⟩,ty,p,af,gd⟩ O ⟨iV d (res.map r) O.g,D++jC O.d H⟩:=by
 rintro a w ⟨⟨ρ,z,S⟩,hz,j4⟩;let A:Nat->Nat:=fun i=>B0 (ρ (r i)).v
 have Q:∀i b,(ρ (r i)).v= .pointer (some ⟨b,0,none⟩)->A i=b:=fun i b h=>by show B0 (ρ (r i)).v=b;rw[h];rfl
 have B:=(F6 A).spec z.own Q;have T:∀k,(Un F.S0 ρ O.d k/\¬mV (fun i=>ρ (r i)) (ZL A) k)->k<w.heap.size:=by
  rintro k ⟨h |⟨i,u,L,M⟩,_⟩
  ·exact X0 (z.low k h) z.size
  ·exact(z.fresh i u k L M).2
 have R:Un (fun k=>Un F.S0 ρ O.d k/\¬mV (fun i=>ρ (r i)) (ZL A) k) (fun i=>ρ (r i)) (ZL A)=Un F.S0 ρ O.d:=by
  funext k;refine propext ⟨fun h=>?_,fun h=>?_⟩
  ·rcases h with h |⟨i,u,L,M⟩
   ·exact h.1
   ·obtain⟨⟨I,C⟩,_⟩:=B i u L;exact .inr ⟨r i,I,C,M⟩
  ·by_cases E:mV (fun i=>ρ (r i)) (ZL A) k
   ·exact .inr E
   ·exact .inl ⟨h,E⟩
 have U:Ins (fun k=>Un F.S0 ρ O.d k/\¬mV (fun i=>ρ (r i)) (ZL A) k) (fun i=>ρ (r i)) w (ZL A):=by
  refine⟨fun i u h=>?_,fun i u b h G=>?_,fun i u b h G X=>X.2 ⟨i,u,h,G⟩,fun i j u aa b hi hj bi bj=>?_⟩
  ·rw[R];exact(B i u h).2
  ·obtain⟨⟨I,C⟩,_⟩:=B i u h;exact(z.fresh _ _ b C G).2
  ·obtain⟨⟨I,C⟩,_⟩:=B i u hi;obtain⟨⟨fu,h4⟩,_⟩:=B j aa hj;exact hr _ _ (z.inj _ _ _ _ b C h4 bi bj)
 have K:=cK z S (Op.call ⟨.value (.func f),xs.toArray,ts⟩).operands;have V:=ha.spec (ys:=(Op.call ⟨.value (.func f),xs.toArray,ts⟩).operands) (fun x hx=>by simp[Op.operands,Call.operands,hx]) K;refine XC.enter (uL ZE) ((hc A _ w _ _ T U (by rw[R];exact V)).mono ?_);rintro e w' ⟨v,ρ',rfl,E⟩;exact⟨v,rfl,St.N2 hr z S hz j4 Q (F6 A) (I4 A) (hH A) ZM U6 (ZW A) lq p8 E⟩
end
def UR(a b i:Nat):Nat:=bif Nat.beq i a then b else bif Nat.beq i b then a else i
def Cf:List (Nat×Nat)->Nat->Nat
 | [],i=>i
 | (a,b)::l,i=>Cf l (UR a b i)
theorem BJ(a b i:Nat):UR a b (UR a b i)=i:=by
 unfold UR;cases h1:Nat.beq i a<;>cases h2:Nat.beq i b<;>simp only[YX,pF,h1,h2]
 all_goals first
  | (have:=D6 h1;subst this;cases h3:Nat.beq b i<;>simp_all [aC4];done)
  | (have:=D6 h2;subst this;cases h3:Nat.beq a i<;>simp_all [aC4];done)
  |simp_all
theorem eW:∀(l:List (Nat×Nat)) (i j:Nat),Cf l i=Cf l j->i=j
 | [],_,_,h=>h
 | (a,b)::l,i,j,h=>by
  have:=eW l _ _ h;rw[<-BJ a b i,this,BJ]
end Go.Sw
