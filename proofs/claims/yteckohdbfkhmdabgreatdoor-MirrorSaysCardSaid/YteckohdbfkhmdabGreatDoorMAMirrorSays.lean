/- The library over the model: how values lie, what is ours in memory, rules for operations, calls, loops. Conditions: none. -/
import Derived.Orders
import Derived.Tactics
import Derived.Below
import Derived.TacticsIn
import Derived.OrdersIn
import Derived.Laws.Rows
import Derived.RangeFuncRecord
import Derived.Laws.StructEq
import Derived.Laws.AppendOwn
import Derived.Laws.CopyRow
import Derived.Laws.MakeOwn
import Derived.Laws.Tables
import Derived.ChangeKeysEq
import Derived.Laws.Cover3
set_option linter.unusedVariables false
set_option linter.unusedSimpArgs false
namespace Go.Sw
abbrev cM:=@Option.bind_some
abbrev pF:=@cond_false
abbrev pT:=@Option.some.inj
abbrev sM:=@List.length_append
abbrev aAa:=@Option.isSome_none
abbrev aAb:=@Nat.eq_of_beq_eq_true
abbrev aAc:=@decide_eq_false
abbrev aAd:=@Nat.le_of_ble_eq_true
abbrev aAe:=@cond_true
abbrev aAf:=@Int.toNat_natCast
abbrev aAg:=@List.getElem?_eq_getElem
abbrev aAh:=@List.all_eq_true
abbrev aAi:=@Nat.le_refl
abbrev aAj:=@if_neg
abbrev aAk:=@Option.some.injEq
abbrev aAl:=@List.getD_eq_getElem?_getD
abbrev aAm:=@List.append_assoc
abbrev aAn:=@if_pos
abbrev aAo:=@List.mem_cons
abbrev aAp:=@List.length_take
abbrev aAq:=@List.length_cons
abbrev aAr:=@Bool.and_eq_true
abbrev aAs:=@decide_eq_true
abbrev aAt:=@List.take_append_drop
abbrev aAu:=@List.eq_nil_of_length_eq_zero
abbrev aAv:=@List.getElem?_eq_none
abbrev aAw:=@Bool.false_eq_true
abbrev aAx:=@List.map_cons
abbrev aAy:=@Nat.lt_of_lt_of_le
abbrev aAz:=@List.mem_cons_of_mem
abbrev aA0:=@List.mem_append
abbrev aA1:=@List.length_drop
abbrev aA2:=@Nat.mod_eq_of_lt
abbrev aA3:=@Array.length_toList
abbrev aA4:=@if_false
abbrev aA5:=@decide_false
abbrev aA6:=@List.mem_cons_self
abbrev aA7:=@Array.getD_eq_getD_getElem?
abbrev aA8:=@List.foldl_cons
abbrev aA9:=@List.length_nil
abbrev aBa:=@List.append_nil
abbrev aBb:=@if_true
abbrev aBc:=@Nat.lt_or_ge
abbrev aBd:=@List.nil_append
abbrev aBe:=@Nat.add_mul
abbrev aBf:=@Option.isNone_none
abbrev aBg:=@Prod.mk.injEq
abbrev aBh:=@List.cons_append
abbrev aBi:=@List.length_replicate
abbrev aBj:=@Int.fdiv_eq_ediv_of_nonneg
abbrev aBk:=@List.getElem_mem
abbrev aBl:=@List.getElem?_map
abbrev aBm:=@Array.getElem?_eq_some_iff
abbrev aBn:=@List.mem_map
abbrev aBo:=@List.getElem?_set_ne
abbrev aBp:=@List.length_map
abbrev aBq:=@Nat.le_trans
abbrev aBr:=@List.length_pos_iff
abbrev aBs:=@Array.getElem?_eq_getElem
abbrev aBt:=@List.getElem?_append_left
abbrev aBu:=@Option.map_some
abbrev aBv:=@Array.getElem?_eq_none
abbrev aBw:=@List.mem_range
abbrev aBx:=@Nat.mul_le_mul_right
abbrev aBy:=@Bool.not_eq_true'
abbrev aBz:=@Bool.not_true
abbrev aB0:=@List.take_of_length_le
abbrev aB1:=@List.getElem?_set_self
abbrev aB2:=@Nat.min_eq_left
abbrev aB3:=@Bool.not_eq_true
abbrev aB4:=@List.filter_append
abbrev aB5:=@List.drop_left
abbrev aB6:=@List.getElem?_modify
abbrev aB7:=@List.mem_of_getElem?
abbrev aB8:=@BitVec.toNat_ofNat
abbrev aB9:=@decide_true
abbrev aCa:=@List.getElem?_eq_some_iff
abbrev aCb:=@List.ext_getElem?
abbrev aCc:=@Nat.xor_lt_two_pow
abbrev aCd:=@List.mem_singleton
abbrev aCe:=@Option.getD_some
abbrev aCf:=@List.length_eq_one_iff
abbrev aCg:=@Bool.not_false
abbrev aCh:=@Array.toList_modify
abbrev aCi:=@Bool.or_eq_true
abbrev aCj:=@List.mem_filter
abbrev aCk:=@List.zipIdx_cons
abbrev aCl:=@Nat.one_mul
abbrev aCm:=@List.mapM_cons
abbrev aCn:=@List.take_left
abbrev aCo:=@List.mem_of_mem_take
abbrev aCp:=@List.getElem?_set
abbrev aCq:=@List.map_append
abbrev aCr:=@List.length_set
abbrev aCs:=@List.not_mem_nil
abbrev aCt:=@Nat.mul_le_mul
abbrev aCu:=@Option.isSome_some
abbrev aCv:=@Nat.mod_lt
abbrev aCw:=@List.length_singleton
abbrev aCx:=@List.length_filter_le
abbrev aCy:=@List.drop_eq_getElem_cons
abbrev aCz:=@Nat.add_comm
abbrev aC0:=@not_true_eq_false
abbrev aC1:=@List.flatten_cons
abbrev aC2:=@decide_eq_true_eq
abbrev aC3:=@Nat.beq_refl
abbrev aC4:=@Nat.zero_add
abbrev aC5:=@List.foldl_append
abbrev aC6:=@Decidable.not_not
abbrev aC7:=@List.getElem_append_left
abbrev aC8:=@Bool.eq_false_or_eq_true
abbrev aC9:=@Ne.symm
abbrev aDa:=@List.filter_eq_self
abbrev aDb:=@List.drop_drop
abbrev aDc:=@List.map_toArray
abbrev aDd:=@List.take_length
abbrev aDe:=@List.any_eq_true
abbrev aDf:=@Nat.and_two_pow_sub_one_eq_mod
abbrev aDg:=@Int.le_refl
abbrev aDh:=@Nat.add_zero
abbrev aDi:=@List.mem_filterMap
abbrev aDj:=@Array.getElem?_setIfInBounds
abbrev aDk:=@Array.toList_push
abbrev aDl:=@Array.getElem?_append_left
abbrev aDm:=@List.mem_append_left
abbrev aDn:=@List.getElem?_append_right
abbrev aDo:=@Nat.mod_two_eq_zero_or_one
abbrev aDp:=@List.mem_of_mem_drop
abbrev aDq:=@List.mem_or_eq_of_mem_set
abbrev aDr:=@List.replicate_succ
abbrev aDs:=@Nat.add_assoc
abbrev aDt:=@Nat.add_sub_cancel
abbrev aDu:=@List.getElem?_replicate
abbrev aDv:=@List.set_eq_take_append_cons_drop
abbrev aDw:=@List.mapM_toArray
abbrev aDx:=@List.drop_eq_nil_of_le
abbrev aDy:=@Array.all_eq_true_iff_forall_mem
abbrev aDz:=@List.map_nil
abbrev aD0:=@Nat.or_lt_two_pow
abbrev aD1:=@Classical.choose_spec
abbrev aD2:=@List.singleton_append
abbrev aD3:=@List.filter_cons
abbrev aD4:=@List.drop_append
abbrev aD5:=@List.mem_flatMap
abbrev aD6:=@List.eq_nil_iff_forall_not_mem
abbrev aD7:=@Array.size_replicate
abbrev aD8:=@Nat.pow_le_pow_right
abbrev aD9:=@Nat.shiftLeft_add_eq_or_of_lt
abbrev aEa:=@List.getElem_of_mem
abbrev aEb:=@Int.le_of_lt
abbrev aEc:=@Nat.mul_comm
abbrev aEd:=@Nat.succ_mul
abbrev aEe:=@List.idxOf_lt_length_of_mem
abbrev aEf:=@Nat.pow_succ
abbrev aEg:=@Array.foldl_toList
abbrev aEh:=@Nat.eq_zero_or_pos
abbrev aEi:=@Array.size_append
abbrev aEj:=@List.size_toArray
abbrev aEk:=@List.length_range
abbrev aEl:=@Nat.zero_le
abbrev aEm:=@List.any_eq_false
abbrev aEn:=@List.flatMap_cons
abbrev aEo:=@of_decide_eq_true
abbrev aEp:=@List.mapM_nil
abbrev aEq:=@Bool.true_and
abbrev aEr:=@BitVec.toNat_xor
abbrev aEs:=@BitVec.toNat_and
abbrev aEt:=@Option.getD_none
abbrev aEu:=@or_false
abbrev aEv:=@List.map_map
abbrev aEw:=@List.cons.injEq
abbrev aEx:=@Int.pow_pos
abbrev aEy:=@true_and
abbrev aEz:=@not_true
abbrev aE0:=@or_self
end Go.Sw
namespace Go.Sw
open Go Go.RowKit
structure Ext (S S':Nat->Prop) (w w':World):Prop where
 size:w.heap.size<=w'.heap.size
 keep:∀k,k<w.heap.size->¬S k->w'.heap[k]? =w.heap[k]?/\¬S' k
theorem Ext.refl(S:Nat->Prop)(w:World):Ext S S w w:=⟨aAi _,fun _ _ h=>⟨rfl,h⟩⟩
theorem Ext.trans{S S' S'':Nat->Prop}{w w' w'':World}(h:Ext S S' w w')(k:Ext S' S'' w' w''):Ext S S'' w w'':=
 ⟨aBq h.size k.size,fun i u z=>by
  obtain⟨a,b⟩:=h.keep i u z;obtain⟨c,d⟩:=k.keep i (aAy u h.size) b
  exact⟨c.trans a,d⟩⟩
structure Enc (α:Type) where
 n:Nat
 agg:Bool
 ok:α->(Nat->Prop)->World->List Value->Prop
 len:∀{x S w cs},ok x S w cs->cs.length=n
 one:agg=false->n=1
 cell:∀{x S w cs},ok x S w cs->∀c∈cs,c.oneCell'=true
 mono:∀{x S S' w w' cs},ok x S w cs->Ext S S' w w'->ok x S' w' cs
theorem Qc{v:Value}(h:v.oneCell'=true):v.cells= #[v]:=by cases v<;>first | rfl | cases h
def Enc.pk{α:Type}(e:Enc α)(cs:List Value):Value:=if e.agg then .agg cs.toArray else cs.headD undef
def Enc.val{α:Type}(e:Enc α)(x:α)(S:Nat->Prop)(w:World)(v:Value):Prop:=∃cs,e.ok x S w cs/\v=e.pk cs
theorem gB{α:Type}{e:Enc α}{x:α}{S S' w w' v}(h:e.val x S w v)(k:Ext S S' w w'):e.val x S' w' v:=
 let ⟨cs,a,b⟩:=h;⟨cs,e.mono a k,b⟩
inductive Slot:Type 1
 |v {α:Type} (e:Enc α) (x:α)
 |ref (i:Nat)
 |ptr (i off:Nat)
 |pel (i off k n:Nat)
 |el (i k n off:Nat)
 |asl (i off lo n cap:Nat)
 |esl (i off n cap:Nat)
 |sub (i off n:Nat)
 |pst {α:Type} (e:Enc α) (x:α)
 |fnc (g:Nat) (cap:List Slot)
 |top
 |agg (l:List Slot)
 |tup (l:List Slot)
def MemAt(w:World)(b off:Nat)(cs:List Value):Prop:=
 ∃c T fr,w.heap[b]? =some (.cells c T fr)/\∀j (h:j<cs.length),c[off+j]? =some cs[j]
def blk(v:Value):Option Nat:=match v with | .pointer (some a)=>some a.block | .slice (some a) _ _=>some a.block | .map (some r)=>some r | _=>none
def Kl(v:Value)(n:Nat):Value:=match v with | .slice (some a) _ _=> .pointer (some ⟨a.block,a.off+n,none⟩) | v=>v
def DT(v:Value)(off n cap:Nat):Value:=match v with | .pointer (some a)=> .slice (some ⟨a.block,off,none⟩) n cap | v=>v
def DU(v:Value)(off n cap:Nat):Value:=match v with | .slice (some a) _ _=> .slice (some ⟨a.block,a.off+off,none⟩) n cap | v=>v
def Se(v:Value)(off n c:Nat):Value:=match v with | .slice (some a) _ _=> .slice (some ⟨a.block,a.off+off,none⟩) n c | .slice none _ _=> .slice none n c | v=>v
def Bz(v:Value)(n:Nat):Value:=match v with | .pointer (some a)=> .pointer (some ⟨a.block,n,none⟩) | v=>v
structure LV where
 v:Value
 x:Nat->Prop
def LV.of(v:Value):LV:=⟨v,fun _=>False⟩
def pV(u:LV)(b:Nat):Prop:=blk u.v=some b\/u.x b
theorem nY{v:Value}{b:Nat}:pV (.of v) b↔blk v=some b:=⟨fun h=>h.elim id False.elim,.inl⟩
def Yc(v:Value):Prop:=(∃a l c,v= .slice a l c)\/∃r,v= .map r
mutual
def Slot.okc(ρ:Nat->LV)(S:Nat->Prop)(w:World):Slot->List Value->Prop
 | .v e x,h=>e.ok x S w h
 | .ref i,h=>Yc (ρ i).v/\h=[(ρ i).v]
 | .ptr i off,h=>(∃b,(ρ i).v= .pointer (some ⟨b,0,none⟩))/\h=[Bz (ρ i).v off]
 | .pel i off k n,h=>(∃b,(ρ i).v= .pointer (some ⟨b,0,none⟩))/\h=[Bz (ρ i).v (off+k*n)]
 | .el i k n off,h=>(∃b o l c,(ρ i).v= .slice (some ⟨b,o,none⟩) l c)/\h=[Kl (ρ i).v (k*n+off)]
 | .asl i off u n cap,h=>(∃b,(ρ i).v= .pointer (some ⟨b,0,none⟩))/\h=[DT (ρ i).v (off+u) n cap]
 | .esl i off n cap,h=>(∃b o l c,(ρ i).v= .slice (some ⟨b,o,none⟩) l c)/\h=[DU (ρ i).v off n cap]
 | .sub i off n,h=>(∃a l c,(ρ i).v= .slice a l c)/\∃c o,n<=c/\(o=off\/n=0)/\h=[Se (ρ i).v o n c]
 | .pst e x,h=>∃b off ds,h=[.pointer (some ⟨b,off,none⟩)]/\b<w.heap.size/\¬S b/\MemAt w b off ds/\e.ok x S w ds
 | .fnc g cap,h=>∃vs,h=[.func (.func g) #[] vs.toArray]/\aV ρ S w cap vs
 | .top,h=>h=[undef]
 | .agg _,_=>False
 | .tup _,_=>False
def aV(ρ:Nat->LV)(S:Nat->Prop)(w:World):List Slot->List Value->Prop
 | [],vs=>vs=[]
 |s::r,vs=>∃u vs',vs=u::vs'/\Slot.ok ρ S w s u/\aV ρ S w r vs'
def aZ(ρ:Nat->LV)(S:Nat->Prop)(w:World):List Slot->List Value->Prop
 | [],h=>h=[]
 |s::r,h=>∃c d,h=c++d/\Slot.okc ρ S w s c/\aZ ρ S w r d
def Slot.ok(ρ:Nat->LV)(S:Nat->Prop)(w:World):Slot->Value->Prop
 | .v e x,u=>e.val x S w u
 | .ref i,u=>Yc (ρ i).v/\u=(ρ i).v
 | .ptr i off,u=>(∃b,(ρ i).v= .pointer (some ⟨b,0,none⟩))/\u=Bz (ρ i).v off
 | .pel i off k n,u=>(∃b,(ρ i).v= .pointer (some ⟨b,0,none⟩))/\u=Bz (ρ i).v (off+k*n)
 | .el i k n off,u=>(∃b o l c,(ρ i).v= .slice (some ⟨b,o,none⟩) l c)/\u=Kl (ρ i).v (k*n+off)
 | .asl i off h n cap,u=>(∃b,(ρ i).v= .pointer (some ⟨b,0,none⟩))/\u=DT (ρ i).v (off+h) n cap
 | .esl i off n cap,u=>(∃b o l c,(ρ i).v= .slice (some ⟨b,o,none⟩) l c)/\u=DU (ρ i).v off n cap
 | .sub i off n,u=>(∃a l c,(ρ i).v= .slice a l c)/\∃c o,n<=c/\(o=off\/n=0)/\u=Se (ρ i).v o n c
 | .pst e x,u=>∃b off ds,u= .pointer (some ⟨b,off,none⟩)/\b<w.heap.size/\¬S b/\MemAt w b off ds/\e.ok x S w ds
 | .fnc g cap,u=>∃vs,u= .func (.func g) #[] vs.toArray/\aV ρ S w cap vs
 | .top,u=>u=undef
 | .agg l,u=>∃cs,u= .agg cs.toArray/\aZ ρ S w l cs
 | .tup l,u=>∃vs,u= .tuple vs.toArray/\aV ρ S w l vs
end
def lP(ρ ρ':Nat->LV)(l:List Nat):Prop:=∀i∈l,(ρ' i).v=(ρ i).v
mutual
def Slot.lab:Slot->List Nat
 | .ref i=>[i]
 | .ptr i _=>[i]
 | .pel i _ _ _=>[i]
 | .el i _ _ _=>[i]
 | .asl i _ _ _ _=>[i]
 | .esl i _ _ _=>[i]
 | .sub i _ _=>[i]
 | .fnc _ l=>dF l
 | .agg l=>dF l
 | .tup l=>dF l
 |_=>[]
def dF:List Slot->List Nat
 | []=>[]
 |s::r=>s.lab++dF r
end
theorem MemAt.mono{S S':Nat->Prop}{w w':World}{b off:Nat}{cs:List Value}(h:MemAt w b off cs)(hb:b<w.heap.size)(hs:¬S b)(k:Ext S S' w w'):MemAt w' b off cs:=by
 obtain⟨c,T,u,z,A⟩:=h;exact⟨c,T,u,by rw[(k.keep b hb hs).1];exact z,A⟩
section
variable {ρ ρ':Nat->LV}{S S':Nat->Prop}{w w':World}
mutual
theorem uM:∀(s:Slot) (cs:List Value),s.okc ρ S w cs->Ext S S' w w'->lP ρ ρ' s.lab->s.okc ρ' S' w' cs
 | .v e x,cs,h,k,_=>e.mono h k
 | .ref i,cs,h,_,a=>by simp only[Slot.okc] at h ⊢;rw[a i (by simp[Slot.lab])];exact h
 | .ptr i u,cs,h,_,a=>by simp only[Slot.okc] at h ⊢;rw[a i (by simp[Slot.lab])];exact h
 | .pel i u j n,cs,h,_,a=>by simp only[Slot.okc] at h ⊢;rw[a i (by simp[Slot.lab])];exact h
 | .el i k n u,cs,h,_,a=>by simp only[Slot.okc] at h ⊢;rw[a i (by simp[Slot.lab])];exact h
 | .asl i u F n cap,cs,h,_,a=>by simp only[Slot.okc] at h ⊢;rw[a i (by simp[Slot.lab])];exact h
 | .esl i u n cap,cs,h,_,a=>by simp only[Slot.okc] at h ⊢;rw[a i (by simp[Slot.lab])];exact h
 | .sub i u n,cs,h,_,a=>by simp only[Slot.okc] at h ⊢;rw[a i (by simp[Slot.lab])];exact h
 | .pst e x,cs,h,k,_=>by
  simp only[Slot.okc] at h ⊢;obtain⟨b,u,C,A,z,B,D,E⟩:=h;exact⟨b,u,C,A,aAy z k.size,(k.keep b z B).2,D.mono z B k,e.mono E k⟩
 | .fnc g cap,cs,h,k,a=>by
  simp only[Slot.okc] at h ⊢;obtain⟨vs,A,z⟩:=h;exact⟨vs,A,mG cap vs z k (by simpa[Slot.lab] using a)⟩
 | .top,cs,h,_,_=>by simpa only[Slot.okc] using h
 | .agg l,cs,h,_,_=>by simp[Slot.okc] at h
 | .tup l,cs,h,_,_=>by simp[Slot.okc] at h
theorem mG:∀(l:List Slot) (vs:List Value),aV ρ S w l vs->Ext S S' w w'->lP ρ ρ' (dF l)->aV ρ' S' w' l vs
 | [],vs,h,_,_=>by simpa only[aV] using h
 |s::r,vs,h,k,a=>by
  simp only[aV] at h ⊢;obtain⟨u,A,B,C,D⟩:=h;exact⟨u,A,B,Slot.ok_mono s u C k (fun i z=>a i (by simp[dF,z])),mG r A D k (fun i z=>a i (by simp[dF,z]))⟩
theorem eZ:∀(l:List Slot) (vs:List Value),aZ ρ S w l vs->Ext S S' w w'->lP ρ ρ' (dF l)->aZ ρ' S' w' l vs
 | [],vs,h,_,_=>by simpa only[aZ] using h
 |s::r,vs,h,k,a=>by
  simp only[aZ] at h ⊢;obtain⟨u,A,B,C,D⟩:=h;exact⟨u,A,B,uM s u C k (fun i z=>a i (by simp[dF,z])),eZ r A D k (fun i z=>a i (by simp[dF,z]))⟩
theorem Slot.ok_mono:∀(s:Slot) (u:Value),s.ok ρ S w u->Ext S S' w w'->lP ρ ρ' s.lab->s.ok ρ' S' w' u
 | .v e x,z,h,k,_=>by simp only[Slot.ok] at h ⊢;exact gB h k
 | .ref i,z,h,_,a=>by simp only[Slot.ok] at h ⊢;rw[a i (by simp[Slot.lab])];exact h
 | .ptr i B,z,h,_,a=>by simp only[Slot.ok] at h ⊢;rw[a i (by simp[Slot.lab])];exact h
 | .pel i B j n,z,h,_,a=>by simp only[Slot.ok] at h ⊢;rw[a i (by simp[Slot.lab])];exact h
 | .el i k n B,z,h,_,a=>by simp only[Slot.ok] at h ⊢;rw[a i (by simp[Slot.lab])];exact h
 | .asl i B H n cap,z,h,_,a=>by simp only[Slot.ok] at h ⊢;rw[a i (by simp[Slot.lab])];exact h
 | .esl i B n cap,z,h,_,a=>by simp only[Slot.ok] at h ⊢;rw[a i (by simp[Slot.lab])];exact h
 | .sub i B n,z,h,_,a=>by simp only[Slot.ok] at h ⊢;rw[a i (by simp[Slot.lab])];exact h
 | .pst e x,z,h,k,_=>by
  simp only[Slot.ok] at h ⊢;obtain⟨b,B,E,C,A,D,F,G⟩:=h;exact⟨b,B,E,C,aAy A k.size,(k.keep b A D).2,F.mono A D k,e.mono G k⟩
 | .fnc g cap,z,h,k,a=>by
  simp only[Slot.ok] at h ⊢;obtain⟨vs,C,A⟩:=h;exact⟨vs,C,mG cap vs A k (by simpa[Slot.lab] using a)⟩
 | .top,z,h,_,_=>by simpa only[Slot.ok] using h
 | .agg l,z,h,k,a=>by
  simp only[Slot.ok] at h ⊢;obtain⟨vs,C,A⟩:=h;exact⟨vs,C,eZ l vs A k (by simpa[Slot.lab] using a)⟩
 | .tup l,z,h,k,a=>by
  simp only[Slot.ok] at h ⊢;obtain⟨vs,C,A⟩:=h;exact⟨vs,C,mG l vs A k (by simpa[Slot.lab] using a)⟩
end
end
def Enc.okL{α:Type}(e:Enc α):List α->(Nat->Prop)->World->List Value->Prop
 | [],_,_,h=>h=[]
 |x::xs,S,w,h=>∃c d,h=c++d/\e.ok x S w c/\Enc.okL e xs S w d
section
variable {α:Type}{e:Enc α}{S S':Nat->Prop}{w w':World}
theorem Enc.okL_mono:∀{xs:List α} {cs},e.okL xs S w cs->Ext S S' w w'->e.okL xs S' w' cs
 | [],_,h,_=>h
 |_::_,_,⟨c,d,u,z,A⟩,k=>⟨c,d,u,e.mono z k,Enc.okL_mono A k⟩
theorem cA:∀{xs:List α} {cs},e.okL xs S w cs->cs.length=xs.length*e.n
 | [],_,h=>by simp only[Enc.okL] at h;simp[h]
 |x::xs,_,⟨c,d,u,z,A⟩=>by rw[u,sM,e.len z,cA A,aAq,aBe,aCl,aCz]
theorem qK:∀{xs:List α} {cs},e.okL xs S w cs->∀c∈cs,c.oneCell'=true
 | [],_,h=>by simp only[Enc.okL] at h;simp[h]
 |x::xs,_,⟨c,d,z,A,B⟩=>by
  intro y u;rw[z] at u;rcases aA0.1 u with u | u
  ·exact e.cell A y u
  ·exact qK B y u
theorem fU:∀{xs ys:List α} {cs ds},e.okL xs S w cs->e.okL ys S w ds->e.okL (xs++ys) S w (cs++ds)
 | [],_,_,_,h,k=>by simp only[Enc.okL] at h;simpa[h] using k
 |x::xs,ys,_,ds,⟨c,d,u,z,A⟩,k=>⟨c,d++ds,by rw[u,aAm],z,fU A k⟩
theorem yD:∀{xs ys:List α} {cs},e.okL (xs++ys) S w cs->∃c d,cs=c++d/\e.okL xs S w c/\e.okL ys S w d
 | [],_,cs,h=>⟨[],cs,rfl,rfl,h⟩
 |x::xs,ys,_,⟨c,d,D,E,F⟩=>by
  obtain⟨u,z,A,B,C⟩:=yD (xs:=xs) F;exact⟨c++u,z,by rw[D,A,aAm],⟨c,u,rfl,E,B⟩,C⟩
theorem pW{xs:List α}{cs}(h:e.okL xs S w cs){i:Nat}{x:α}(hx:xs[i]? =some x):
  ∃a c b,cs=a++(c++b)/\a.length=i*e.n/\e.ok x S w c/\(∀y c',e.ok y S w c'->e.okL (xs.set i y) S w (a++(c'++b))):=by
 have u:i<xs.length:=by
  rcases aBc i xs.length with h | h
  ·exact h
  ·simp[aAv h] at hx
 have B:xs[i]=x:=by simpa[aAg u] using hx
 have C:xs=xs.take i++(x::xs.drop (i+1)):=by
  rw[<-B,List.getElem_cons_drop,aAt]
 have z:=h;rw[C] at z;obtain⟨a,d,E,A,c,b,F,G,H⟩:=yD z;refine⟨a,c,b,by rw[E,F],?_,G,fun y c' D=>?_⟩
 ·rw[cA A,aAp];rw[aB2 (Nat.le_of_lt u)]
 ·have:xs.set i y=xs.take i++(y::xs.drop (i+1)):=by
   rw[aDv,aAn u]
  rw[this];exact fU A ⟨c',b,rfl,D,H⟩
end
structure DE (α:Type) where
 ok:α->(Nat->Prop)->World->LV->List Value->Prop
 mono:∀{x:α} {S S':Nat->Prop} {w w':World} {u:LV} {l:List Value},ok x S w u l->Ext S S' w w'->(∀b,pV u b->w'.heap[b]? =w.heap[b]?)->ok x S' w' u l
inductive Ent:Type 1
 |box (T:TypeId) (l:List Slot) (pb:Option Nat:=none)
 |arr {α:Type} (T:TypeId) (e:Enc α) (xs:List α)
 |mp {α β:Type} (e:Enc α) (f:Enc β) (m:List (α×β))
 |dp {α:Type} (D:DE α) (x:α) (ls:List Nat)
def Vs{α β:Type}(e:Enc α)(f:Enc β)(S:Nat->Prop)(w:World):List (α×β)->List MapEntry->Prop
 | [],[]=>True
 | (k,v)::m,x::xs=>e.val k S w x.key/\f.val v S w x.val/\Vs e f S w m xs
 |_,_=>False
theorem yN{α β:Type}{e:Enc α}{f:Enc β}{S S':Nat->Prop}{w w':World}(k:Ext S S' w w'):∀{m:List (α×β)} {xs:List MapEntry},Vs e f S w m xs->Vs e f S' w' m xs
 | [],[],_=>trivial
 | (_,_)::_,_::_,⟨u,z,A⟩=>⟨gB u k,gB z k,yN k A⟩
 | [],_::_,h=>h
 |_::_,[],h=>h
def Ent.ok(ρ:Nat->LV)(S:Nat->Prop)(w:World)(u:LV):Ent->Prop
 | .box T l h=>(∃b cs,u.v= .pointer (some ⟨b,0,none⟩)/\w.heap[b]? =some (.cells cs.toArray T (0,0))/\aZ ρ S w l cs)/\∀c,h=some c->u.v= .pointer (some ⟨c,0,none⟩)
 | .arr T e xs=>(xs=[]/\u.v= .slice none 0 0)\/∃b cap pre cs post,u.v= .slice (some ⟨b,pre.length,none⟩) xs.length cap/\
   w.heap[b]? =some (.cells (pre++(cs++post)).toArray T (0,0))/\e.okL xs S w cs/\xs.length<=cap/\cap*e.n<=cs.length+post.length/\xs.length<=140737488355328
 | .mp e f m=>∃b es ck,u.v= .map (some b)/\w.heap[b]? =some (.map es ck)/\Vs e f S w m es.toList
 | .dp D x z=>D.ok x S w u (z.map fun l=>(ρ l).v)
def Ent.lab:Ent->List Nat
 | .box _ l _=>dF l
 | .arr _ _ _=>[]
 | .mp _ _ _=>[]
 | .dp _ _ h=>h
theorem Ent.ok_mono{ρ ρ':Nat->LV}{S S':Nat->Prop}{w w':World}{u:LV}{en:Ent}(h:en.ok ρ S w u)(k:Ext S S' w w')(a:lP ρ ρ' en.lab)
  (hb:∀b,pV u b->w'.heap[b]? =w.heap[b]?):en.ok ρ' S' w' u:=by
 cases en with
 |box T l O=>
  obtain⟨⟨b,C,z,A,B⟩,E⟩:=h;exact⟨⟨b,C,z,by rw[hb b (.inl (by simp[z,blk]))];exact A,eZ l C B k a⟩,E⟩
 |arr T e xs=>
  rcases h with h |⟨b,K,L,C,M,z,A,B,E,N⟩
  ·exact .inl h
  ·exact .inr ⟨b,K,L,C,M,z,by rw[hb b (.inl (by simp[z,blk]))];exact A,Enc.okL_mono B k,E,N⟩
 |mp e f m=>
  obtain⟨b,H,I,z,A,B⟩:=h;exact⟨b,H,I,z,by rw[hb b (.inl (by simp[z,blk]))];exact A,yN k B⟩
 |dp D x F=>
  have:=D.mono h k hb;simp only[Ent.ok];have e:(F.map fun l=>(ρ' l).v)=F.map fun l=>(ρ l).v:=List.map_congr_left fun l G=>a l G;rw[e];exact this
def lk:List (Nat×Slot)->Nat->Option Slot
 | [],_=>none
 | (i,s)::r,t=>bif Nat.beq i t then some s else lk r t
def aW:List (Nat×Ent)->Nat->Option Ent
 | [],_=>none
 | (i,s)::r,t=>bif Nat.beq i t then some s else aW r t
structure AS:Type 1 where
 g:List (Nat×Slot)
 d:List (Nat×Ent)
structure Frm where
 P:Program
 N:Nat
 S0:Nat->Prop
 w0:World
 R:Nat->Prop
 rd:Option Nat
 df:List Deferred
def lQ(ρ:Nat->LV)(d:List (Nat×Ent))(k:Nat):Prop:=∃i en,aW d i=some en/\pV (ρ i) k
def Un(S:Nat->Prop)(ρ:Nat->LV)(d:List (Nat×Ent))(k:Nat):Prop:=S k\/lQ ρ d k
structure Core (F:Frm) (d:List (Nat×Ent)) (ρ:Nat->LV) (w:World):Prop where
 low:∀k,F.S0 k->k<F.w0.heap.size
 size:F.w0.heap.size<=w.heap.size
 frame:∀k,k<F.w0.heap.size->¬F.R k->w.heap[k]? =F.w0.heap[k]?
 os:w.os=F.w0.os
 tape:w.tape=F.w0.tape
 output:w.output=F.w0.output
 own:∀i en,aW d i=some en->en.ok ρ (Un F.S0 ρ d) w (ρ i)
 fresh:∀i en b,aW d i=some en->pV (ρ i) b->(F.w0.heap.size<=b\/F.R b)/\b<w.heap.size
 inj:∀i j en en' b,aW d i=some en->aW d j=some en'->pV (ρ i) b->pV (ρ j) b->i=j
 apart:∀i en b,aW d i=some en->pV (ρ i) b->¬F.S0 b
structure St (F:Frm) (σ:AS) (a:Act) (w:World):Prop where
 core:∃ρ,Core F σ.d ρ w/\∀t s,lk σ.g t=some s->s.ok ρ (Un F.S0 ρ σ.d) w (a.tmps.getD t undef)
 size:a.tmps.size=F.N
 defers:a.defers=F.df
end Go.Sw
namespace Go.Sw
open Go Go.RowKit
def Db(k:IntKind)(n:Int):Prop:=k.min<=n/\n<=k.max
instance (k:IntKind) (n:Int):Decidable (Db k n):=inferInstanceAs (Decidable (_/\_))
def Enc.int(k:IntKind):Enc Int where
 n:=1
 agg:=false
 ok x _ _ cs:=cs=[.int k x]/\Db k x
 len h:=by rw[h.1];rfl
 one _:=rfl
 cell h c hc:=by rw[h.1] at hc;simp at hc;subst hc;rfl
 mono h _:=h
def Enc.bool:Enc Bool where
 n:=1
 agg:=false
 ok x _ _ cs:=cs=[.bool x]
 len h:=by rw[h];rfl
 one _:=rfl
 cell h c hc:=by rw[h] at hc;simp at hc;subst hc;rfl
 mono h _:=h
def Enc.str:Enc ByteArray where
 n:=1
 agg:=false
 ok x _ _ cs:=cs=[.string x]/\x.size<=9223372036854775807
 len h:=by rw[h.1];rfl
 one _:=rfl
 cell h c hc:=by rw[h.1] at hc;simp at hc;subst hc;rfl
 mono h _:=h
theorem Dc{k:IntKind}{x:Int}{S w u}:(Enc.int k).val x S w u↔u= .int k x/\Db k x:=by
 constructor
 ·rintro⟨z,⟨rfl,h⟩,rfl⟩;exact⟨rfl,h⟩
 ·rintro⟨rfl,h⟩;exact⟨_,⟨rfl,h⟩,rfl⟩
theorem yO{x:Bool}{S w u}:Enc.bool.val x S w u↔u= .bool x:=by
 constructor
 ·rintro⟨h,rfl,rfl⟩;rfl
 ·rintro rfl;exact⟨_,rfl,rfl⟩
theorem JE{x:ByteArray}{S w u}:Enc.str.val x S w u↔u= .string x/\x.size<=9223372036854775807:=by
 constructor
 ·rintro⟨z,⟨rfl,h⟩,rfl⟩;exact⟨rfl,h⟩
 ·rintro⟨rfl,h⟩;exact⟨_,⟨rfl,h⟩,rfl⟩
def OpWp(P:Program)(o:Oper)(a:Act)(w:World)(K:Value->World->Prop):Prop:=
 (∃v w',(execOp a.eval o).run P w= .ok (.value v) w'/\K v w')\/(∃w',(execOp a.eval o).run P w= .ok .skip w'/\K undef w')\/
 (∃f args w',(execOp a.eval o).run P w= .ok (.enter f args) w'/\Calls P f args w' fun e h=>∃v,e= .returned v/\K v h)\/
 (∃l f tmps assign body w',(execOp a.eval o).run P w= .ok (.round l f tmps assign body) w'/\RoundIn Fence.wide 0 P l f tmps assign body w' fun e h=>∃v,e= .returned v/\K v h)
theorem zS{P:Program}{o:Oper}{a:Act}{w w':World}{x:Next}(h:(execOp a.eval o).run P w= .ok x w')(hx:∀d,x≠.defer d)(l:Option Nat):o.semAt l a.eval=execOp a.eval o:=by
 refine Oper.semAt_eq _ _ _ fun c u=>?_;unfold execOp at h;rw[u] at h;simp only[Sem.run_bind] at h;cases hr:(resolve a.eval c o.type).run P w with
 |ok d z=>rw[hr] at h;simp at h;exact hx d h.1.symm
 |halt x z=>rw[hr] at h;simp at h
abbrev Frm.fe(F:Frm):Fence:={ Fence.wide with round:=F.rd }
theorem OpWp.wpIn{P:Program}{o:Oper}{a:Act}{w:World}{K:Value->World->Prop}(h:OpWp P o a w K){l:Option Nat}{next:Act->World->Prop}{Q:Exit->Act->World->Prop}(hn:∀v w',K v w'->next (a.put o.dst v) w'):
  o.wpIn { Fence.wide with round:=l } 0 P a w next Q:=by
 refine⟨fun _ _=>trivial,?_⟩;rcases h with⟨v,w',h,k⟩|⟨w',h,k⟩|⟨f,D,w',h,k⟩|⟨z,f,A,B,body,w',h,k⟩
 ·rw[zS h (fun _ h=>by cases h),h];exact hn v w' k
 ·rw[zS h (fun _ h=>by cases h),h];exact hn undef w' k
 ·rw[zS h (fun _ h=>by cases h),h];refine⟨fun h=>(by cases h),?_⟩;refine CallsIn.mono (callsIn_wide.2 k) ?_;rintro e C ⟨v,rfl,u⟩;exact hn _ _ u
 ·rw[zS h (fun _ h=>by cases h),h];refine⟨fun h=>(by cases h),?_⟩;refine RoundIn.mono (show RoundIn { Fence.wide with round:=l } (0 - 1) P z f A B body w' _ from k) ?_;rintro e C ⟨v,rfl,u⟩;exact hn _ _ u
theorem OpWp.value{P:Program}{o:Oper}{a:Act}{w w':World}{v:Value}{K:Value->World->Prop}(h:(execOp a.eval o).run P w= .ok (.value v) w')(k:K v w'):OpWp P o a w K:= .inl ⟨v,w',h,k⟩
theorem OpWp.skip{P:Program}{o:Oper}{a:Act}{w w':World}{K:Value->World->Prop}(h:(execOp a.eval o).run P w= .ok .skip w')(k:K undef w'):OpWp P o a w K:= .inr (.inl ⟨w',h,k⟩)
theorem OpWp.enter{P:Program}{o:Oper}{a:Act}{w w':World}{f:FuncId}{args:Array Value}{K:Value->World->Prop}(h:(execOp a.eval o).run P w= .ok (.enter f args) w')
  (k:Calls P f args w' fun e w''=>∃v,e= .returned v/\K v w''):OpWp P o a w K:= .inr (.inr (.inl ⟨f,args,w',h,k⟩))
theorem OpWp.mono{P:Program}{o:Oper}{a:Act}{w:World}{K K':Value->World->Prop}(h:OpWp P o a w K)(k:∀v w',K v w'->K' v w'):OpWp P o a w K':=by
 rcases h with⟨v,w',h,u⟩|⟨w',h,u⟩|⟨f,C,w',h,u⟩|⟨D,f,E,F,body,w',h,u⟩
 ·exact .inl ⟨v,w',h,k _ _ u⟩
 ·exact .inr (.inl ⟨w',h,k _ _ u⟩)
 ·exact .inr (.inr (.inl ⟨f,C,w',h,u.mono fun e B ⟨v,z,A⟩=>⟨v,z,k _ _ A⟩⟩))
 ·exact .inr (.inr (.inr ⟨D,f,E,F,body,w',h,u.mono fun e B ⟨v,z,A⟩=>⟨v,z,k _ _ A⟩⟩))
def DV:Value->Option Slot
 | .int k n=>if Db k n then some (.v (Enc.int k) n) else none
 | .bool b=>some (.v Enc.bool b)
 | .string s=>if s.size<=9223372036854775807 then some (.v Enc.str s) else none
 |_=>none
def cK(g:List (Nat×Slot)):Operand->Option Slot
 | .tmp t=>lk g t
 | .const u=>DV u
 |_=>none
theorem Km{u:Value}{s:Slot}(h:DV u=some s)(ρ:Nat->LV)(S:Nat->Prop)(w:World):s.ok ρ S w u/\s.lab=[]:=by
 cases u<;>simp only[DV] at h
 case int k n=>
  split at h
  ·rename_i z;cases h;exact⟨by simp only[Slot.ok];exact Dc.2 ⟨rfl,z⟩,rfl⟩
  ·cases h
 case bool b=>cases h;exact⟨by simp only[Slot.ok];exact yO.2 rfl,rfl⟩
 case string b=>
  split at h
  ·rename_i z;cases h;exact⟨by simp only[Slot.ok];exact JE.2 ⟨rfl,z⟩,rfl⟩
  ·cases h
 all_goals cases h
structure NewOk (ρ:Nat->LV) (S:Nat->Prop) (w w':World) (new:List (Nat×Ent)):Prop where
 own:∀i en,aW new i=some en->en.ok ρ S w' (ρ i)
 fresh:∀i en b,aW new i=some en->pV (ρ i) b->w.heap.size<=b/\b<w'.heap.size
 inj:∀i j en en' b,aW new i=some en->aW new j=some en'->pV (ρ i) b->pV (ρ j) b->i=j
def Res(ρ:Nat->LV)(S:Nat->Prop)(w:World)(s:Slot)(new:List (Nat×Ent))(v:Value)(w':World):Prop:=
 ∃ρ',(∀i,aW new i=none->ρ' i=ρ i)/\Below w.heap.size w w'/\s.ok ρ' (Un S ρ' new) w' v/\NewOk ρ' (Un S ρ' new) w w' new
structure Know (σ:AS) (xs:Array Operand) (ρ:Nat->LV) (S:Nat->Prop) (a:Act) (w:World):Prop where
 low:∀k,S k->k<w.heap.size
 slot:∀x∈xs,∀s,cK σ.g x=some s->s.ok ρ S w (a.eval x)
 ent:∀x∈xs,∀s,cK σ.g x=some s->∀i∈s.lab,∀en,aW σ.d i=some en->en.ok ρ S w (ρ i)/\∀b,pV (ρ i) b->S b/\b<w.heap.size
def JO(F:Frm)(o:Oper)(σ:AS)(s:Slot)(new:List (Nat×Ent)):Prop:=
 ∀ρ S a w,Know σ o.op.operands ρ S a w->OpWp F.P o a w (Res ρ S w s new)
def AS.put(σ:AS)(dst:Option Tmp)(s:Slot)(new:List (Nat×Ent)):AS:=
 ⟨match dst with | some d=>(d,s)::σ.g | none=>σ.g,new++σ.d⟩
def AS.free(σ:AS)(new:List (Nat×Ent)):Bool:=
 new.all fun x=>(σ.g.all fun y=> !y.2.lab.contains x.1) && σ.d.all fun y=> !Nat.beq y.1 x.1 && !y.2.lab.contains x.1
def gA(dst:Option Tmp)(n:Nat):Bool:=match dst with | some d=>Nat.blt d n | none=>true
theorem fV(l r:List (Nat×Ent))(i:Nat):aW (l++r) i=(aW l i).or (aW r i):=by
 induction l with
 |nil=>simp[aW]
 |cons x l h=>
  obtain⟨j,u⟩:=x;simp only[aBh,aW];cases Nat.beq j i<;>simp[h]
theorem lR{l:List (Nat×Ent)}{i:Nat}{en:Ent}(h:aW l i=some en):(i,en)∈l:=by
 induction l with
 |nil=>simp[aW] at h
 |cons x l u=>
  obtain⟨j,z⟩:=x;simp only[aW] at h;cases hb:Nat.beq j i with
  |true=>rw[hb] at h;simp at h;subst h;have:=aAb hb;subst this;exact aA6
  |false=>rw[hb] at h;exact aAz _ (u h)
theorem Kn{l:List (Nat×Slot)}{i:Nat}{s:Slot}(h:lk l i=some s):(i,s)∈l:=by
 induction l with
 |nil=>simp[lk] at h
 |cons x l u=>
  obtain⟨j,z⟩:=x;simp only[lk] at h;cases hb:Nat.beq j i with
  |true=>rw[hb] at h;simp at h;subst h;have:=aAb hb;subst this;exact aA6
  |false=>rw[hb] at h;exact aAz _ (u h)
theorem kF{σ:AS}{new:List (Nat×Ent)}(h:σ.free new=true){i:Nat}{en:Ent}(hi:aW new i=some en):
  (∀t s,lk σ.g t=some s->i∉s.lab)/\aW σ.d i=none/\∀j e,aW σ.d j=some e->i∉e.lab:=by
 have u:=aAh.1 h _ (lR hi);simp only[aAr,aAh] at u;obtain⟨u,A⟩:=u;refine⟨fun t s B z=>?_,?_,fun j e C z=>?_⟩
 ·have:=u _ (Kn B);simp at this;exact this z
 ·cases hd:aW σ.d i with
  |none=>rfl
  |some e=>
   have:=(A _ (lR hd)).1;simp at this
 ·have:=(A _ (lR C)).2;simp at this;exact this z
theorem qL{w w':World}(h:Below w.heap.size w w'){S S':Nat->Prop}(hs:∀k,k<w.heap.size->S' k->S k):Ext S S' w w':=
 ⟨h.size,fun k u z=>⟨h.block k u,fun A=>z (hs k u A)⟩⟩
theorem Core.put{F:Frm}{d new:List (Nat×Ent)}{ρ ρ':Nat->LV}{w w':World}{σ:AS}(hσ:σ.d=d)(hc:Core F d ρ w)(hf:σ.free new=true)(hρ:∀i,aW new i=none->ρ' i=ρ i)
  (hb:Below w.heap.size w w') (hn:NewOk ρ' (Un (Un F.S0 ρ d) ρ' new) w w' new):
  Core F (new++d) ρ' w'/\(∀k,Un F.S0 ρ' (new++d) k↔Un (Un F.S0 ρ d) ρ' new k)/\Ext (Un F.S0 ρ d) (Un F.S0 ρ' (new++d)) w w':=by
 subst hσ
 have D:∀i u,aW σ.d i=some u->ρ' i=ρ i:=fun i u h=>hρ i (by
  cases hx:aW new i with
  |none=>rfl
  |some e=>rw[(kF hf hx).2.1] at h;cases h)
 have K:∀k,Un F.S0 ρ' (new++σ.d) k↔Un (Un F.S0 ρ σ.d) ρ' new k:=by
  intro k;constructor
  ·rintro (h |⟨i,u,z,A⟩)
   ·exact .inl (.inl h)
   ·rw[fV] at z;cases hx:aW new i with
    |some e=>exact .inr ⟨i,e,hx,A⟩
    |none=>rw[hx] at z;simp at z;exact .inl (.inr ⟨i,u,z,by rw[<-D i u z];exact A⟩)
  ·rintro ((h |⟨i,u,z,A⟩) |⟨i,u,z,A⟩)
   ·exact .inl h
   ·refine .inr ⟨i,u,?_,by rw[D i u z];exact A⟩;rw[fV];cases hx:aW new i with
    |some e=>rw[(kF hf hx).2.1] at z;cases z
    |none=>simpa using z
   ·exact .inr ⟨i,u,by rw[fV,z];rfl,A⟩
 have N:Ext (Un F.S0 ρ σ.d) (Un F.S0 ρ' (new++σ.d)) w w':=by
  refine qL hb fun k L h=>?_;rcases (K k).1 h with h |⟨i,u,z,A⟩
  ·exact h
  ·have:=(hn.fresh i u k z A).1;omega
 have P:Ext (Un (Un F.S0 ρ σ.d) ρ' new) (Un F.S0 ρ' (new++σ.d)) w' w':=⟨aAi _,fun k _ h=>⟨rfl,fun hc=>h ((K k).1 hc)⟩⟩
 refine⟨⟨hc.low,aBq hc.size hb.size,fun k L Q=>(hb.block k (aAy L hc.size)).trans (hc.frame k L Q),hb.os.trans hc.os,hb.tape.trans hc.tape,hb.output.trans hc.output,?_,?_,?_,?_⟩,K,N⟩
 ·intro i u h;rw[fV] at h;cases hx:aW new i with
  |some e=>
   rw[hx] at h;simp at h;subst h;exact Ent.ok_mono (hn.own i e hx) P (fun _ _=>rfl) (fun _ _=>rfl)
  |none=>
   rw[hx] at h;simp at h;rw[D i u h];refine Ent.ok_mono (hc.own i u h) N (fun j B=>congrArg LV.v (hρ j ?_)) (fun b C=>hb.block b (hc.fresh i u b h C).2);cases hy:aW new j with
   |none=>rfl
   |some e=>exact absurd B ((kF hf hy).2.2 i u h)
 ·intro i u b h C;rw[fV] at h;cases hx:aW new i with
  |some e=>
   obtain⟨z,A⟩:=hn.fresh i e b hx C;exact⟨.inl (aBq hc.size z),A⟩
  |none=>
   rw[hx] at h;simp at h;rw[D i u h] at C;obtain⟨z,A⟩:=hc.fresh i u b h C;exact⟨z,aAy A hb.size⟩
 ·intro i j u I b E B H G;rw[fV] at E B;cases hx:aW new i with
  |some e=>
   cases hy:aW new j with
   |some M=>exact hn.inj i j e M b hx hy H G
   |none=>
    rw[hy] at B;simp at B;rw[D j I B] at G;have z:=(hn.fresh i e b hx H).1;have A:=(hc.fresh j I b B G).2;omega
  |none=>
   rw[hx] at E;simp at E;rw[D i u E] at H;cases hy:aW new j with
   |some M=>
    have z:=(hn.fresh j M b hy G).1;have A:=(hc.fresh i u b E H).2;omega
   |none=>
    rw[hy] at B;simp at B;rw[D j I B] at G;exact hc.inj i j u I b E B H G
 ·intro i u b h C O;rw[fV] at h;cases hx:aW new i with
  |some e=>
   have z:=(hn.fresh i e b hx C).1;have A:=hc.low b O;have R:=hc.size;omega
  |none=>
   rw[hx] at h;simp at h;rw[D i u h] at C;exact hc.apart i u b h C O
theorem kG(a:Act)(dst:Option Tmp)(v:Value):(a.put dst v).tmps.size=a.tmps.size:=by
 cases dst<;>simp[Act.put]
theorem kH(a:Act)(d:Tmp)(v:Value)(t:Tmp)(h:d<a.tmps.size):(a.put (some d) v).tmps.getD t undef=if d=t then v else a.tmps.getD t undef:=by
 simp only[Act.put,aA7,aDj];split
 ·simp_all
 ·rfl
theorem St.put{F:Frm}{σ:AS}{dst:Option Tmp}{s:Slot}{new:List (Nat×Ent)}{ρ:Nat->LV}{a:Act}{w w':World}{v:Value}
  (hc:Core F σ.d ρ w) (hs:∀t s,lk σ.g t=some s->s.ok ρ (Un F.S0 ρ σ.d) w (a.tmps.getD t undef)) (hz:a.tmps.size=F.N) (hd:a.defers=F.df)
  (hf:σ.free new=true) (hdst:gA dst F.N=true) (hr:Res ρ (Un F.S0 ρ σ.d) w s new v w'):St F (σ.put dst s new) (a.put dst v) w':=by
 obtain⟨ρ',B,E,G,H⟩:=hr;obtain⟨I,K,L⟩:=hc.put rfl hf B E H;refine⟨⟨ρ',I,?_⟩,by rw[kG,hz],by cases dst<;>exact hd⟩;have z:∀t s,lk σ.g t=some s->s.ok ρ' (Un F.S0 ρ' (new++σ.d)) w' (a.tmps.getD t undef):=fun t s u=>
  Slot.ok_mono s _ (hs t s u) L (fun j D=>congrArg LV.v (B j (by
   cases hy:aW new j with
   |none=>rfl
   |some e=>exact absurd D ((kF hf hy).1 t s u))))
 intro t A u;cases dst with
 |none=>exact z t A u
 |some d=>
  simp only[AS.put,lk] at u;have C:d<a.tmps.size:=by rw[hz];exact aAd hdst
  rw[kH a d v t C];cases hb:Nat.beq d t with
  |true=>
   have:=aAb hb;rw[hb] at u;simp at u;subst u;rw[aAn this];exact Slot.ok_mono s v G ⟨aAi _,fun k _ h=>⟨rfl,fun hc=>h ((K k).1 hc)⟩⟩ (fun _ _=>rfl)
  |false=>
   have:d≠t:=fun e=>by subst e;simp at hb
   rw[hb] at u;rw[aAj this];exact z t A u
theorem Qd(a:Act)(t:Tmp):a.eval (.tmp t)=a.tmps.getD t undef:=rfl
theorem bT{F:Frm}{σ:AS}{ρ:Nat->LV}{a:Act}{w:World}(hc:Core F σ.d ρ w)
  (hs:∀t s,lk σ.g t=some s->s.ok ρ (Un F.S0 ρ σ.d) w (a.tmps.getD t undef)) (xs:Array Operand):Know σ xs ρ (Un F.S0 ρ σ.d) a w:=by
 refine⟨fun k A=>?_,fun x _ s h=>?_,fun x _ s h i G z B=>⟨hc.own i z B,fun b C=>⟨.inr ⟨i,z,B,C⟩,(hc.fresh i z b B C).2⟩⟩⟩
 ·rcases A with A |⟨i,z,D,E⟩
  ·exact aAy (hc.low k A) hc.size
  ·exact(hc.fresh i z k D E).2
 cases x with
 |tmp t=>exact hs t s h
 |const u=>exact(Km h ρ _ w).1
 |global g=>cases h
 |func f=>cases h
def GK(ops:Array Oper)(g:List (Nat×Slot))(o:Oper)(b:Bool):Prop:=
 match o.guard with
 |none=>b=true
 |some (j,want)=>(∃t x,(ops[j]?).bind (·.dst)=some t/\lk g t=some (.v Enc.bool x)/\(x==want)=b)\/(b=false/\∃t,(ops[j]?).bind (·.dst)=some t/\lk g t=some .top)
theorem GK.none{ops:Array Oper}{g:List (Nat×Slot)}{o:Oper}(h:o.guard= .none):GK ops g o true:=by unfold GK;rw[h]
theorem GK.some{ops:Array Oper}{g:List (Nat×Slot)}{o:Oper}{j:Nat}{want:Bool}(t:Tmp)(x:Bool)(b:Bool)(h:o.guard= .some (j,want))(ht:(ops[j]?).bind (·.dst)= .some t)
  (hx:lk g t= .some (.v Enc.bool x)) (hb:(x==want)=b):GK ops g o b:=by unfold GK;rw[h];exact .inl ⟨t,x,ht,hx,hb⟩
theorem sW{ops:Array Oper}{g:List (Nat×Slot)}{o:Oper}{j:Nat}{want:Bool}(t:Tmp)(h:o.guard= .some (j,want))(ht:(ops[j]?).bind (·.dst)= .some t)
  (hx:lk g t= .some .top):GK ops g o false:=by unfold GK;rw[h];exact .inr ⟨rfl,t,ht,hx⟩
theorem yP{ops:Array Oper}{g:List (Nat×Slot)}{o:Oper}{b:Bool}(h:GK ops g o b){ρ S w}{a:Act}
  (hs:∀t s,(∃j want,o.guard=Option.some (j,want)/\(ops[j]?).bind (·.dst)=Option.some t)->lk g t=Option.some s->s.ok ρ S w (a.tmps.getD t undef)):
  Region.wanted o (yielded ops a.tmps)=b:=by
 unfold GK at h;unfold Region.wanted;split at h
 ·rename_i u;rw[u];exact h.symm
 ·rename_i j want u;rcases h with⟨t,x,A,B,C⟩|⟨rfl,t,A,B⟩
  ·have:=hs t _ ⟨j,want,u,A⟩ B;simp only[Slot.ok] at this;have z:=yO.1 this;rw[u];simp only[yielded,A,cM];have:a.tmps[t]? =Option.some (.bool x):=by
    rw[aA7] at z;cases hq:a.tmps[t]? with
    |none=>rw[hq] at z;simp[undef] at z
    |some y=>rw[hq] at z;simpa using z
   rw[this];simp only;rw[<-C];cases x<;>cases want<;>rfl
  ·have:=hs t _ ⟨j,want,u,A⟩ B;simp only[Slot.ok] at this;rw[u];simp only[yielded,A,cM];rw[aA7] at this;cases hq:a.tmps[t]? with
   |none=>rfl
   |some y=>rw[hq] at this;simp at this;subst this;rfl
def J(F:Frm)(ops:Array Oper)(os:List Oper)(σ σ':AS):Prop:=
 ∀Q rest a w,St F σ a w->(∀a' w',St F σ' a' w'->wpListIn F.fe 0 F.P ops Q rest a' w')->wpListIn F.fe 0 F.P ops Q (os++rest) a w
theorem zT{F:Frm}{ops:Array Oper}{Q:Exit->Act->World->Prop}{a:Act}{w:World}{rest:List Oper}{o:Oper}{K:Value->World->Prop}
  (hw:Region.wanted o (yielded ops a.tmps)=true) (h:OpWp F.P o a w K) (k:∀v w',K v w'->wpListIn F.fe 0 F.P ops Q rest (a.put o.dst v) w'):wpListIn F.fe 0 F.P ops Q (o::rest) a w:=by
 unfold wpListIn;rw[aAn hw];exact h.wpIn k
theorem Sf{F:Frm}{ops:Array Oper}{Q:Exit->Act->World->Prop}{a:Act}{w:World}{rest:List Oper}{o:Oper}
  (hw:Region.wanted o (yielded ops a.tmps)=false) (k:wpListIn F.fe 0 F.P ops Q rest (a.put o.dst undef) w):wpListIn F.fe 0 F.P ops Q (o::rest) a w:=by
 unfold wpListIn;rw[aAj (by rw[hw];decide)];exact⟨fun _ _=>trivial,k⟩
section
variable {F:Frm}{ops:Array Oper}{os:List Oper}{o:Oper}{σ σ' σ'':AS}{s:Slot}{new:List (Nat×Ent)}
theorem J.nil:J F ops [] σ σ:=fun _ _ _ _ h k=>k _ _ h
theorem J.cons(g:GK ops σ.g o true)(h:JO F o σ s new)(hf:σ.free new=true)(hd:gA o.dst F.N=true)(k:J F ops os (σ.put o.dst s new) σ'):J F ops (o::os) σ σ':=by
 intro Q A a w B C;obtain⟨⟨ρ,z,u⟩,G,H⟩:=B;refine zT (yP g (fun t x _ D=>u t _ D)) (h ρ _ a w (bT z u _)) fun v I E=>?_;exact k Q A _ _ (St.put z u G H hf hd E) C
theorem Yd{ρ:Nat->LV}{S:Nat->Prop}{w:World}:Res ρ S w .top [] undef w:=
 ⟨ρ,fun _ _=>rfl,Below.refl _ _,by simp[Slot.ok],⟨fun _ _ h=>by simp[aW] at h,fun _ _ _ h=>by simp[aW] at h,fun _ _ _ _ _ h=>by simp[aW] at h⟩⟩
theorem J.left(g:GK ops σ.g o false)(hd:gA o.dst F.N=true)(k:J F ops os (σ.put o.dst .top []) σ'):J F ops (o::os) σ σ':=by
 intro Q u a w z A;obtain⟨⟨ρ,C,h⟩,D,E⟩:=z;refine Sf (yP g (fun t x _ B=>h t _ B)) ?_;exact k Q u _ _ (St.put C h D E rfl hd Yd) A
def JM(F:Frm)(o:Oper)(σ σ':AS):Prop:=∀a w,St F σ a w->OpWp F.P o a w fun v h=>St F σ' (a.put o.dst v) h
theorem Ye(g:GK ops σ.g o true)(h:JM F o σ σ')(k:J F ops os σ' σ''):J F ops (o::os) σ σ'':=by
 intro Q A a w u B;have z:=u;obtain⟨⟨ρ,H,E⟩,I,K⟩:=u;refine zT (yP g (fun t x _ C=>E t _ C)) (h a w z) fun v G D=>?_;exact k Q A _ _ D B
def Sub(F:Frm)(σ σ':AS):Prop:=∀a w,St F σ a w->St F σ' a w
theorem J.sub(h:Sub F σ σ')(k:J F ops os σ' σ''):J F ops os σ σ'':=fun Q u a w z A=>k Q u a w (h a w z) A
end
def run(Fe:Fence)(P:Program)(Q:Exit->Act->World->Prop):List Code->Act->World->Prop
 | [],a,w=>Q .normal a w
 |c::cs,a,w=>c.wpIn Fe 0 P (Exit.then (run Fe P Q cs) Q) a w
def W(F:Frm)(cs:List Code)(σ:AS)(Q:Exit->Act->World->Prop):Prop:=∀a w,St F σ a w->run F.fe F.P Q cs a w
section
variable {F:Frm}{cs:List Code}{σ σ':AS}{Q:Exit->Act->World->Prop}
theorem aF{x y:Code}(h:W F (x::y::cs) σ Q):W F (.seq x y::cs) σ Q:=by
 intro a w u;refine wpIn_seq (wpIn_mono (h a w u) ?_);intro e a w z;cases e<;>exact z
theorem dL{id:Nat}{ops:List Oper}(h:J F ops.toArray ops σ σ')(k:W F cs σ' Q):W F (.region id ops.toArray false::cs) σ Q:=by
 intro a w u;refine wpIn_region_lit ?_;have:=h (Exit.then (run F.fe F.P Q cs) Q) [] a w u (fun z A B=>wpListIn_nil (k z A B));simpa using this
theorem Eo{c:Tmp}{x y:Code}{b:Bool}(hb:lk σ.g c=some (.v Enc.bool b))(ht:b=true->W F (x::cs) σ Q)(hf:b=false->W F (y::cs) σ Q):W F (.cond (.tmp c) x y::cs) σ Q:=by
 intro a w u;obtain⟨ρ,B,A⟩:=u.core;have:=A c _ hb;simp only[Slot.ok] at this;have z:=yO.1 this;exact wpIn_cond_split (c:= .tmp c) (by rw[Qd];exact z) (fun h=>ht h a w u) (fun h=>hf h a w u)
theorem aH(h:W F cs σ Q):W F (.skip::cs) σ Q:=fun a w u=>wpIn_skip (h a w u)
theorem vM(h:Sub F σ σ')(k:W F cs σ' Q):W F cs σ Q:=fun a w u=>k a w (h a w u)
def XQ(F:Frm)(σ:AS)(Q:Exit->Act->World->Prop)(e:Exit):Prop:=∀a w,St F σ a w->Q e a w
theorem aG(h:XQ F σ Q .ret):W F (.ret::cs) σ Q:=fun a w u=>wpIn_ret (h a w u)
theorem cN{id:Nat}(h:XQ F σ Q (.exit id)):W F (.exit id::cs) σ Q:=fun a w u=>wpIn_exit (h a w u)
theorem Yf(h:XQ F σ Q .normal):W F [] σ Q:=h
theorem bF{id:Nat}{c:Code}(h:W F [c] σ (Exit.inBlock id (Exit.then (run F.fe F.P Q cs) Q))):W F (.block id c::cs) σ Q:=by
 intro a w u;refine wpIn_block (wpIn_mono (h a w u) ?_);intro e a w z;cases e<;>exact z
theorem bK{id:Nat}(h:W F cs σ Q):W F [] σ (Exit.inBlock id (Exit.then (run F.fe F.P Q cs) Q)):=fun a w u=>h a w u
theorem JF{id id':Nat}{N:Act->World->Prop}(hne:Nat.beq id' id=false)(h:XQ F σ Q (.exit id')):XQ F σ (Exit.inBlock id (Exit.then N Q)) (.exit id'):=by
 intro a w z;have u:id'≠id:=fun e=>by subst e;simp at hne
 simp only[Exit.inBlock,aAj u];exact h a w z
theorem dZ{id:Nat}{N:Act->World->Prop}(h:XQ F σ Q .ret):XQ F σ (Exit.inBlock id (Exit.then N Q)) .ret:=h
end
inductive Step (α β:Type) where
 |next (x:α)
 |done (b:β)
def loop{α β:Type}(step:α->Option (Step α β)):Nat->α->Option β
 | 0,_=>none
 |n+1,x=>match step x with
  |none=>none
  |some (.next y)=>loop step n y
  |some (.done b)=>some b
def LQ{α β:Type}(F:Frm)(σs:α->AS)(b:β)(Q:Exit->Act->World->Prop):Step α β->Exit->Act->World->Prop
 | .next y,.normal,a,w=>St F (σs y) a w
 | .next _,_,_,_=>False
 | .done _,.normal,_,_=>False
 | .done h,e,a,w=>h=b->Q e a w
section
variable {F:Frm}{cs:List Code}{σ:AS}{Q:Exit->Act->World->Prop}{α β:Type}
theorem NA{c:Code}{σs:α->AS}{step:α->Option (Step α β)}{n:Nat}{x:α}{b:β}(hm:loop step n x=some b)(h0:Sub F σ (σs x))
  (h:∀y r,step y=some r->W F [c] (σs y) (LQ F σs b Q r)):W F (.loop c::cs) σ Q:=by
 intro a w E;have E:=h0 a w E;let I:Act->World->Prop:=fun a w=>∃m y,Sw.loop step m y=some b/\St F (σs y) a w
 let B:Act->World->Nat->Prop:=fun a w m=>∃y,Sw.loop step m y=some b/\St F (σs y) a w
 have G:∀a w,I a w->∃m,B a w m/\∀k,B a w k->m<=k:=by
  rintro a w ⟨m,y,u,C⟩;have:∃m,B a w m:=⟨m,y,u,C⟩
  clear u C;obtain⟨m,hm⟩:=this
  induction m using Nat.strongRecOn with
  |_ m R=>
   by_cases H:∃k,k<m/\B a w k
   ·obtain⟨k,u,C⟩:=H;exact R k u C
   ·exact⟨m,hm,fun k N=>Nat.le_of_not_lt fun O=>H ⟨k,O,N⟩⟩
 classical
 let μ:Act->World->Nat:=fun a w=>if A:I a w then Classical.choose (G a w A) else 0
 have K:∀a w (A:I a w),B a w (μ a w)/\∀k,B a w k->μ a w<=k:=by
  intro a w A;have:=aD1 (G a w A);simp only[μ,dif_pos A];exact this
 refine wpIn_loop (Q:=Exit.then (run F.fe F.P Q cs) Q) I μ ⟨n,x,hm,E⟩ fun a w A=>?_;obtain⟨⟨y,u,C⟩,S⟩:=K a w A;cases hn:μ a w with
 |zero=>rw[hn] at u;simp[Sw.loop] at u
 |succ m=>
  rw[hn] at u;simp only[Sw.loop] at u;cases hst:step y with
  |none=>rw[hst] at u;cases u
  |some r=>
   have:=h y r hst a w C;refine wpIn_mono this ?_;intro e M w' D;cases r with
   |next z=>
    rw[hst] at u;cases e<;>simp only[LQ,Exit.then,run] at D ⊢;have L:I M w':=⟨m,z,u,D⟩
    refine⟨L,?_⟩;have:=(K M w' L).2 m ⟨z,u,D⟩;omega
   |done T=>
    rw[hst] at u;simp at u;cases e<;>simp only[LQ,Exit.then,run] at D ⊢<;>exact D u
end
end Go.Sw
namespace Go.Sw
open Go Go.RowKit
def Enc.sl{α:Type}(e:Enc α):Enc (List α) where
 n:=1
 agg:=false
 ok xs S w cs:=∃a u,cs=[.slice a xs.length u]/\(xs.length<=u/\xs.length<=140737488355328)/\(xs=[]\/∃b z A,a=some ⟨b,z,none⟩/\b<w.heap.size/\¬S b/\MemAt w b z A/\e.okL xs S w A)
 len h:=by obtain⟨a,u,h,_⟩:=h;rw[h];rfl
 one _:=rfl
 cell h c hc:=by obtain⟨a,u,h,_⟩:=h;rw[h] at hc;simp at hc;subst hc;rfl
 mono h k:=by
  obtain⟨a,u,h,E,B⟩:=h;refine⟨a,u,h,E,?_⟩;rcases B with B |⟨b,z,A,F,C,D,G,H⟩
  ·exact .inl B
  ·exact .inr ⟨b,z,A,F,aAy C k.size,(k.keep b C D).2,G.mono C D k,Enc.okL_mono H k⟩
def Enc.arr{α:Type}(m:Nat)(e:Enc α):Enc (List α) where
 n:=m*e.n
 agg:=true
 ok xs S w cs:=xs.length=m/\e.okL xs S w cs
 len h:=by rw[cA h.2,h.1]
 one h:=by cases h
 cell h:=qK h.2
 mono h k:=⟨h.1,Enc.okL_mono h.2 k⟩
def Enc.pr{α β:Type}(a:Enc α)(b:Enc β):Enc (α×β) where
 n:=a.n+b.n
 agg:=true
 ok x S w cs:=∃c d,cs=c++d/\a.ok x.1 S w c/\b.ok x.2 S w d
 len h:=by obtain⟨c,d,h,u,z⟩:=h;rw[h,sM,a.len u,b.len z]
 one h:=by cases h
 cell h y hy:=by
  obtain⟨c,d,h,u,z⟩:=h;rw[h] at hy;rcases aA0.1 hy with hy | hy
  ·exact a.cell u y hy
  ·exact b.cell z y hy
 mono h k:=by obtain⟨c,d,h,u,z⟩:=h;exact⟨c,d,h,a.mono u k,b.mono z k⟩
def Enc.one1{α:Type}(a:Enc α):Enc α where
 n:=a.n
 agg:=true
 ok:=a.ok
 len:=a.len
 one h:=by cases h
 cell:=a.cell
 mono:=a.mono
def Enc.err(T:TypeId):Enc (Option Int) where
 n:=1
 agg:=false
 ok x _ _ cs:=match x with | none=>cs=[.nilIface] | some n=>cs=[.iface T (.int .i64 n)]/\Db .i64 n
 len {x _ _ _} h:=by cases x<;>simp only at h<;>first | (rw[h];rfl) | (rw[h.1];rfl)
 one _:=rfl
 cell {x _ _ _} h c hc:=by
  cases x<;>simp only at h<;>first | (rw[h] at hc;simp at hc;subst hc;rfl) | (rw[h.1] at hc;simp at hc;subst hc;rfl)
 mono h _:=h
theorem rJ{α:Type}{e:Enc α}{xs:List α}{S w u}:(Enc.sl e).val xs S w u↔∃a cap,u= .slice a xs.length cap/\(xs.length<=cap/\xs.length<=140737488355328)/\(xs=[]\/∃b off ds,a=some ⟨b,off,none⟩/\b<w.heap.size/\¬S b/\MemAt w b off ds/\e.okL xs S w ds):=by
 constructor
 ·rintro⟨B,⟨a,cap,z,A⟩,rfl⟩;rw[z];exact⟨a,cap,rfl,A⟩
 ·rintro⟨a,cap,rfl,h⟩;exact⟨_,⟨a,cap,rfl,h⟩,rfl⟩
theorem zU{T:TypeId}{S w u}:(Enc.err T).val none S w u↔u= .nilIface:=by
 constructor
 ·rintro⟨z,h,rfl⟩;simp only[Enc.err] at h;rw[h];rfl
 ·rintro rfl;exact⟨_,rfl,rfl⟩
theorem zV{T:TypeId}{n:Int}{S w u}:(Enc.err T).val (some n) S w u↔u= .iface T (.int .i64 n)/\Db .i64 n:=by
 constructor
 ·rintro⟨z,h,rfl⟩;simp only[Enc.err] at h;rw[h.1];exact⟨rfl,h.2⟩
 ·rintro⟨rfl,h⟩;exact⟨_,⟨rfl,h⟩,rfl⟩
class FlatE {α:Type} (e:Enc α):Prop where
 flat:∀{x S S' w w' cs},e.ok x S w cs->e.ok x S' w' cs
instance (k:IntKind):FlatE (Enc.int k):=⟨fun h=>h⟩
instance:FlatE Enc.bool:=⟨fun h=>h⟩
instance:FlatE Enc.str:=⟨fun h=>h⟩
instance (T:TypeId):FlatE (Enc.err T):=⟨fun h=>h⟩
theorem FlatE.okL{α:Type}{e:Enc α}[FlatE e]{S S' w w'}:∀{xs:List α} {cs},e.okL xs S w cs->e.okL xs S' w' cs
 | [],_,h=>h
 |_::_,_,⟨c,d,u,z,A⟩=>⟨c,d,u,FlatE.flat z,FlatE.okL A⟩
instance {α:Type} (m:Nat) (e:Enc α) [FlatE e]:FlatE (Enc.arr m e):=⟨fun h=>⟨h.1,FlatE.okL h.2⟩⟩
instance {α β:Type} (a:Enc α) (b:Enc β) [FlatE a] [FlatE b]:FlatE (Enc.pr a b):=⟨fun h=>let ⟨c,d,h,h1,h2⟩:=h;⟨c,d,h,FlatE.flat h1,FlatE.flat h2⟩⟩
instance {α:Type} (a:Enc α) [i:FlatE a]:FlatE (Enc.one1 a):=⟨fun h=>i.flat (e:=a) h⟩
def Con(P:Program)(f:FuncId)(args:List Slot)(res:Slot)(new:List (Nat×Ent)):Prop:=
 ∀S w vs ρ,(∀k,S k->k<w.heap.size)->aV ρ S w args vs->Calls P f vs.toArray w fun e h=>∃v,e= .returned v/\Res ρ S w res new v h
def enum:Nat->List Slot->List (Nat×Slot)
 |_,[]=>[]
 |i,s::r=>(i,s)::enum (i+1) r
theorem Ko{ρ S w}:∀(l:List Slot) (vs:List Value) (i:Nat),aV ρ S w l vs->∀t s,lk (enum i l) t=some s->i<=t/\∃u,vs[t - i]? =some u/\s.ok ρ S w u
 | [],_,_,_,t,s,h=>by simp[enum,lk] at h
 |x::r,vs,i,z,t,s,h=>by
  simp only[aV] at z;obtain⟨u,A,rfl,B,C⟩:=z;simp only[enum,lk] at h;cases hb:Nat.beq i t with
  |true=>
   rw[hb] at h;simp at h;subst h;have:=aAb hb;subst this;exact⟨aAi _,u,by simp,B⟩
  |false=>
   rw[hb] at h;obtain⟨G,D,E,F⟩:=Ko r A (i+1) C t s h;refine⟨by omega,D,?_,F⟩;have:t - i=(t - (i+1))+1:=by omega
   rw[this];simpa using E
theorem Fv{ρ S w}:∀{l:List Slot} {vs:List Value},aV ρ S w l vs->vs.length=l.length
 | [],vs,h=>by simp only[aV] at h;simp[h]
 |x::r,vs,h=>by simp only[aV] at h;obtain⟨u,A,rfl,_,z⟩:=h;simp[Fv z]
theorem pX{P:Program}{fn:Func}{tmps:Array Value}{R R':Ending->World->Prop}(hR:∀e w,R e w->R' e w):∀{ds:List Deferred} {u:FrameMode} {w:World},LeavesInM Fence.wide 0 P fn tmps R ds u w->LeavesInM Fence.wide 0 P fn tmps R' ds u w
 | [],.returning,w,h=>by obtain⟨v,z,A⟩:=h;exact⟨v,z,hR _ _ A⟩
 | [],.panicking chain,w,h=>hR _ _ h
 | [],.run,w,h=>h
 |d::ds,u,w,h=>by
  obtain⟨E,h⟩:=h;refine⟨E,?_⟩;rcases h with⟨r,D,z,A,C⟩|⟨z,F,G,f,H,A,C,I,K⟩
  ·exact .inl ⟨r,D,z,A,pX hR C⟩
  ·refine .inr ⟨z,F,G,f,H,A,C,I,?_⟩;refine CallsDIn.mono K ?_;intro e L D B;cases e
   ·exact pX hR B
   ·exact pX hR B
   ·exact hR _ _ B
theorem Kq{P:Program}{fn:Func}{R R':Ending->World->Prop}(hR:∀e w,R e w->R' e w){e:Exit}{a:Act}{w:World}(h:bodyPostM Fence.wide 0 P fn R e a w):bodyPostM Fence.wide 0 P fn R' e a w:=by
 cases e
 case goto | exit=>exact h.elim
 case normal | ret=>exact pX hR h
 case panic=>exact pX hR h
 case outgrown=>exact hR _ _ h
def Nk(F:Frm)(fn:Func)(res:Slot)(new:List (Nat×Ent)):Exit->Act->World->Prop:=
 bodyPostM Fence.wide 0 F.P fn fun e h=>∃v,e= .returned v/\∀ρ,Res ρ F.S0 F.w0 res new v h
def Leav(P:Program)(fn:Func)(tmps:Array Value)(R:Value->World->Prop):List Deferred->World->Prop
 | [],w=>∃v,(results fn tmps).run P w= .ok v w/\R v w
 |d::ds,w=>∃r w',d.target= .collected r/\(Instr.takeDeferred r).run P w= .ok [] w'/\Leav P fn tmps R ds w'
theorem Leav.leaves{P:Program}{fn:Func}{tmps:Array Value}{R:Value->World->Prop}{R':Ending->World->Prop}(hR:∀v w,R v w->R' (.returned v) w):∀{ds:List Deferred} {w:World},Leav P fn tmps R ds w->LeavesInM Fence.wide 0 P fn tmps R' ds .returning w
 | [],w,h=>by obtain⟨v,u,z⟩:=h;exact⟨v,u,hR _ _ z⟩
 |d::ds,w,h=>by
  obtain⟨r,A,u,z,B⟩:=h;exact⟨by simp,.inl ⟨r,A,u,z,B.leaves hR⟩⟩
structure Fol (F F':Frm):Prop where
 P:F'.P=F.P
 S:∀k,F.S0 k->F'.S0 k
 size:F.w0.heap.size<=F'.w0.heap.size
 low:∀k,F.S0 k->k<F.w0.heap.size
 frame:∀k,k<F.w0.heap.size->¬F.R k->F'.w0.heap[k]? =F.w0.heap[k]?/\¬F'.R k
 os:F'.w0.os=F.w0.os
 tape:F'.w0.tape=F.w0.tape
 output:F'.w0.output=F.w0.output
 fresh:∀k,F'.R k->F.w0.heap.size<=k\/F.R k
 df:∀d∈F'.df,∃r,d.target= .collected r/\F'.S0 r/\¬F'.R r/\F.w0.heap.size<=r/\F'.w0.heap[r]? =some (.deferred (some []))
 nd:F'.df.Pairwise fun d d'=>d.target≠d'.target
theorem Fol.refl{F:Frm}(hl:∀k,F.S0 k->k<F.w0.heap.size)(hd:F.df=[]):Fol F F:=
 ⟨rfl,fun _ h=>h,aAi _,hl,fun _ _ h=>⟨rfl,h⟩,rfl,rfl,rfl,fun _ h=> .inr h,by rw[hd];simp,by rw[hd];exact .nil⟩
theorem Con.of{P:Program}{f:FuncId}{fn:Func}{c:Code}{N:Nat}{args:List Slot}{res:Slot}{new:List (Nat×Ent)}
  (hf:P.funcs[f]? =some fn) (hb:fn.body=some c) (hN:fn.ntmps=N) (hle:Nat.ble args.length N=true)
  (h:∀S w,Fol ⟨P,N,S,w,fun _=>False,none,[]⟩ ⟨P,N,S,w,fun _=>False,none,[]⟩->W ⟨P,N,S,w,fun _=>False,none,[]⟩ [c] ⟨enum 0 args,[]⟩ (Nk ⟨P,N,S,w,fun _=>False,none,[]⟩ fn res new)):Con P f args res new:=by
 intro S w vs ρ hlow hv;refine(callsIn_wide (n:=0)).1 (callsIn_of_wp_marks hf hb trivial ?_);have K:=Fv hv;have hle:=aAd hle;have E:St ⟨P,N,S,w,fun _=>False,none,[]⟩ ⟨enum 0 args,[]⟩ { tmps:=vs.toArray++Array.replicate (fn.ntmps - vs.toArray.size) undef,defers:=[] } w:= ?_
 ·have z:c.wpIn Fence.wide 0 P (Exit.then (run Fence.wide P (Nk ⟨P,N,S,w,fun _=>False,none,[]⟩ fn res new) []) (Nk ⟨P,N,S,w,fun _=>False,none,[]⟩ fn res new)) { tmps:=vs.toArray++Array.replicate (fn.ntmps - vs.toArray.size) undef,defers:=[] } w:=h S w (.refl hlow rfl) _ w E;refine wpIn_mono z ?_;have F:∀e a w',Nk ⟨P,N,S,w,fun _=>False,none,[]⟩ fn res new e a w'->bodyPostM Fence.wide 0 P fn (fun e w'=>∃v,e= .returned v/\Res ρ S w res new v w') e a w':=fun e a w' C=>Kq (fun e w ⟨v,z,D⟩=>⟨v,z,D ρ⟩) C;intro e a w' C;cases e<;>exact F _ _ _ C
 ·refine⟨⟨ρ,⟨hlow,aAi _,fun _ _ _=>rfl,rfl,rfl,rfl,fun i B h=>by simp[aW] at h,fun i B b h=>by simp[aW] at h,fun i j B L b h=>by simp[aW] at h,fun i B b h=>by simp[aW] at h⟩,fun t s H=>?_⟩,?_,rfl⟩
  ·obtain⟨_,u,z,D⟩:=Ko args vs 0 hv t s H;have G:t<vs.length:=by
    rcases aBc t vs.length with h | h
    ·exact h
    ·simp[aAv h] at z
   have:(vs.toArray++Array.replicate (fn.ntmps - vs.toArray.size) undef).getD t undef=u:=by
    rw[aA7,aDl (by simpa using G)];simp at z ⊢;rw[z];rfl
   rw[this];exact Slot.ok_mono s u D ⟨aAi _,fun k _ I=>⟨rfl,fun A=>I (by rcases A with A |⟨i,B,A,_⟩;exact A;simp[aW] at A)⟩⟩ (fun _ _=>rfl)
  ·simp only[aEi,aD7,aEj];omega
def vN(a:Act):ResultVar->Sem Value
 | .tmp t=>pure (a.tmps.getD t undef)
 | .cell c t=>do loadVar t (<-asAddr (a.tmps.getD c undef))
def RV(F:Frm)(σ:AS)(rv:ResultVar)(s:Slot):Prop:=
 ∀(ρ:Nat->LV) (a:Act) (w:World),Core F σ.d ρ w->(∀t s,lk σ.g t=some s->s.ok ρ (Un F.S0 ρ σ.d) w (a.tmps.getD t undef))->
  ∃v,(vN a rv).run F.P w= .ok v w/\s.ok ρ (Un F.S0 ρ σ.d) w v
theorem RV.tmp{F:Frm}{σ:AS}{t:Tmp}{s:Slot}(h:lk σ.g t=some s):RV F σ (.tmp t) s:=fun _ a _ _ u=>⟨a.tmps.getD t undef,rfl,u t s h⟩
inductive SubE:List (Nat×Ent)->List (Nat×Ent)->Prop
 |nil {d}:SubE [] d
 |cons {d i en r}:aW d i=some en->SubE r d->SubE ((i,en)::r) d
theorem SubE.spec{n d:List (Nat×Ent)}(h:SubE n d):∀i en,aW n i=some en->aW d i=some en:=by
 induction h with
 |nil=>intro i en h;simp[aW] at h
 |cons u _ z=>
  rename_i j A r _;intro i en h;simp only[aW] at h;cases hb:Nat.beq j i with
  |true=>have:=aAb hb;subst this;rw[hb] at h;simp at h;subst h;exact u
  |false=>rw[hb] at h;exact z i en h
def kJ(res:Slot)(new:List (Nat×Ent)):Bool:=res.lab.all (fun i=>(aW new i).isSome) && new.all fun x=>x.2.lab.all fun i=>(aW new i).isSome
theorem Res.of_core{F:Frm}{σ:AS}{ρ:Nat->LV}{w:World}{v:Value}{res:Slot}{new:List (Nat×Ent)}(hR:∀k,¬F.R k)(hc:Core F σ.d ρ w)(hr:res.ok ρ (Un F.S0 ρ σ.d) w v)
  (hn:SubE new σ.d) (hcl:kJ res new=true) (ρ0:Nat->LV):Res ρ0 F.S0 F.w0 res new v w:=by
 have A:=hn.spec;simp only[kJ,aAr,aAh] at hcl;let ρ':Nat->LV:=fun i=>if (aW new i).isSome then ρ i else ρ0 i
 have z:∀i,(aW new i).isSome=true->ρ' i=ρ i:=fun i h=>aAn h
 have H:Ext (Un F.S0 ρ σ.d) (Un F.S0 ρ' new) w w:=⟨aAi _,fun k _ E=>⟨rfl,fun h=>E (by
  rcases h with h |⟨i,u,D,G⟩
  ·exact .inl h
  ·exact .inr ⟨i,u,A i u D,by rw[<-z i (by rw[D];rfl)];exact G⟩)⟩⟩
 refine⟨ρ',fun i h=>by simp[ρ',h],⟨hc.os,hc.tape,hc.output,hc.size,fun k E=>hc.frame k E (hR k)⟩,Slot.ok_mono res v hr H (fun i B=>congrArg LV.v (z i (hcl.1 i B))),⟨fun i u h=>?_,fun i u b h I=>?_,fun i j u K b B C L M=>?_⟩⟩
 ·rw[z i (by rw[h];rfl)];exact Ent.ok_mono (hc.own i u (A i u h)) H (fun j C=>congrArg LV.v (z j (hcl.2 _ (lR h) j C))) (fun _ _=>rfl)
 ·rw[z i (by rw[h];rfl)] at I;obtain⟨D,G⟩:=hc.fresh i u b (A i u h) I;exact⟨D.resolve_right (hR b),G⟩
 ·rw[z i (by rw[B];rfl)] at L;rw[z j (by rw[C];rfl)] at M;exact hc.inj i j u K b (A i u B) (A j K C) L M
theorem wI(fn:Func)(a:Act):results fn a.tmps=(do
  let vs<-fn.results.mapM (vN a)
  pure (if h:vs.size=1 then vs[0] else .tuple vs)):=rfl
theorem Yg{P:Program}{S0:Nat->Prop}{B:Nat}:∀(ds:List Deferred) (w:World),(∀d∈ds,∃r,d.target= .collected r/\S0 r/\B<=r/\w.heap[r]? =some (.deferred (some [])))->ds.Pairwise (fun d d'=>d.target≠d'.target)->
  ∃w',w'.heap.size=w.heap.size/\(∀k,¬(S0 k/\B<=k)->w'.heap[k]? =w.heap[k]?)/\w'.os=w.os/\w'.tape=w.tape/\w'.output=w.output/\
   ∀fn tmps R,(∃v,(results fn tmps).run P w'= .ok v w'/\R v w')->Leav P fn tmps R ds w
 | [],w,_,_=>⟨w,rfl,fun _ _=>rfl,rfl,rfl,rfl,fun _ _ _ h=>h⟩
 |d::ds,w,h,z=>by
  obtain⟨r,D,H,I,K⟩:=h d aA6;rw[List.pairwise_cons] at z;have F:∀e∈ds,∃u,e.target= .collected u/\S0 u/\B<=u/\(w.putObj r (.deferred none)).heap[u]? =some (.deferred (some [])):=by
   intro e A;obtain⟨u,E,L,M,N⟩:=h e (aAz _ A);refine⟨u,E,L,M,?_⟩;rw[World.putObj_heap_other];exact N;rintro rfl;exact z.1 e A (D.trans E.symm)
  obtain⟨w',O,Q,S,T,U,V⟩:=Yg ds (w.putObj r (.deferred none)) F z.2;refine⟨w',by rw[O,World.putObj_size],fun k C=>?_,S,T,U,fun fn tmps R G=>⟨r,_,D,run_takeDeferred K,V fn tmps R G⟩⟩;rw[Q k C,World.putObj_heap_other];rintro rfl;exact C ⟨H,I⟩
theorem Core.leave{F F':Frm}{d:List (Nat×Ent)}{ρ:Nat->LV}{w:World}(hF:Fol F F')(hc:Core F' d ρ w):∃w',Core F d ρ w'/\Ext (Un F'.S0 ρ d) (Un F.S0 ρ d) w w'/\
  ∀fn tmps R,(∃v,(results fn tmps).run F.P w'= .ok v w'/\R v w')->Leav F.P fn tmps R F'.df w:=by
 have K:∀x∈F'.df,∃r,x.target= .collected r/\F'.S0 r/\F.w0.heap.size<=r/\w.heap[r]? =some (.deferred (some [])):=by
  intro x D;obtain⟨r,z,C,Q,T,I⟩:=hF.df x D;exact⟨r,z,C,T,by rw[hc.frame r (aBm.1 I).1 Q];exact I⟩
 obtain⟨w',E,G,U,V,X,a6⟩:=Yg (P:=F.P) F'.df w K hF.nd;have L:∀k,Un F.S0 ρ d k->Un F'.S0 ρ d k:=fun k h=>h.imp (hF.S k) (fun h=>h);have H:Ext (Un F'.S0 ρ d) (Un F.S0 ρ d) w w':=⟨by rw[E];exact aAi _,fun k _ B=>⟨G k fun h=>B (.inl h.1),fun h=>B (L k h)⟩⟩
 have M:∀i u b,aW d i=some u->pV (ρ i) b->w'.heap[b]? =w.heap[b]? :=fun i u b h A=>G b fun D=>hc.apart i u b h A D.1
 refine⟨w',⟨hF.low,by rw[E];exact aBq hF.size hc.size,fun k B N=>?_,U.trans (hc.os.trans hF.os),V.trans (hc.tape.trans hF.tape),X.trans (hc.output.trans hF.output),fun i u h=>Ent.ok_mono (hc.own i u h) H (fun _ _=>rfl) (fun b A=>M i u b h A),
  fun i u b h A=>?_,hc.inj,fun i u b h A O=>hc.apart i u b h A (hF.S b O)⟩,H,a6⟩
 ·obtain⟨z,C⟩:=hF.frame k B N;rw[G k (fun h=>by omega),hc.frame k (aAy B hF.size) C,z]
 ·obtain⟨z,C⟩:=hc.fresh i u b h A;refine⟨?_,by rw[E];exact C⟩;rcases z with z | z
  ·exact .inl (aBq hF.size z)
  ·exact hF.fresh b z
theorem xM{F F':Frm}{σ:AS}{fn:Func}{R:Ending->World->Prop}(hF:Fol F F')
  (h:∀(ρ:Nat->LV) (a:Act) (w:World),Core F σ.d ρ w->(∀t s,lk σ.g t=some s->s.ok ρ (Un F.S0 ρ σ.d) w (a.tmps.getD t undef))->∃v,(results fn a.tmps).run F.P w= .ok v w/\R (.returned v) w):
  XQ F' σ (bodyPostM Fence.wide 0 F.P fn R) .ret:=by
 intro a w z;obtain⟨⟨ρ,B,C⟩,K,D⟩:=z;obtain⟨E,G,H,I⟩:=B.leave hF;have u:=h ρ a E G fun t s A=>Slot.ok_mono s _ (C t s A) H (fun _ _=>rfl);show LeavesInM Fence.wide 0 F.P fn a.tmps R a.defers .returning w;rw[D];exact(I fn a.tmps (fun v w=>R (.returned v) w) u).leaves fun _ _ h=>h
theorem Sg{P:Program}{fn:Func}{a:Act}{w:World}{rv:ResultVar}{v:Value}(hrs:fn.results= #[rv])(h1:(vN a rv).run P w= .ok v w):(results fn a.tmps).run P w= .ok v w:=by
 rw[wI,hrs];simp only[aDw,aCm,aEp,Sem.run_bind,Sem.run_map,h1,Result.andThen_ok,Sem.run_pure];simp
theorem Sh{P:Program}{fn:Func}{a:Act}{w:World}{rv rv':ResultVar}{v v':Value}(hrs:fn.results= #[rv,rv'])(h1:(vN a rv).run P w= .ok v w)(h1':(vN a rv').run P w= .ok v' w):(results fn a.tmps).run P w= .ok (.tuple #[v,v']) w:=by
 rw[wI,hrs];simp only[aDw,aCm,aEp,Sem.run_bind,Sem.run_map,h1,h1',Result.andThen_ok,Sem.run_pure];simp
theorem Si{P:Program}{fn:Func}{a:Act}{w:World}{rv rv' rv2:ResultVar}{v v' v2:Value}(hrs:fn.results= #[rv,rv',rv2])(h1:(vN a rv).run P w= .ok v w)(h1':(vN a rv').run P w= .ok v' w)(h12:(vN a rv2).run P w= .ok v2 w):(results fn a.tmps).run P w= .ok (.tuple #[v,v',v2]) w:=by
 rw[wI,hrs];simp only[aDw,aCm,aEp,Sem.run_bind,Sem.run_map,h1,h1',h12,Result.andThen_ok,Sem.run_pure];simp
theorem PO{ρ:Nat->LV}{S:Nat->Prop}{w:World}{s s':Slot}{v v':Value}(h2:s.ok ρ S w v)(h2':s'.ok ρ S w v'):(Slot.tup [s,s']).ok ρ S w (.tuple #[v,v']):=by
 simp only[Slot.ok];exact⟨[v,v'],rfl,by simp only[aV];exact⟨v,_,rfl,h2,v',_,rfl,h2',rfl⟩⟩
theorem PQ{ρ:Nat->LV}{S:Nat->Prop}{w:World}{s s' s2:Slot}{v v' v2:Value}(h2:s.ok ρ S w v)(h2':s'.ok ρ S w v')(h22:s2.ok ρ S w v2):(Slot.tup [s,s',s2]).ok ρ S w (.tuple #[v,v',v2]):=by
 simp only[Slot.ok];exact⟨[v,v',v2],rfl,by simp only[aV];exact⟨v,_,rfl,h2,v',_,rfl,h2',v2,_,rfl,h22,rfl⟩⟩
section
variable {F F':Frm}{σ:AS}{fn:Func}{rv rv' rv2:ResultVar}{res s s' s2:Slot}{new:List (Nat×Ent)}
theorem aY(hF:Fol F F')(hR:∀k,¬F.R k)(hrs:fn.results= #[rv])(h:RV F σ rv res)(hn:SubE new σ.d)(hcl:kJ res new=true):XQ F' σ (Nk F fn res new) .ret:=
 xM hF fun ρ a w u z=>by
  obtain⟨v,A,B⟩:=h ρ a w u z;exact⟨v,Sg hrs A,v,rfl,Res.of_core hR u B hn hcl⟩
theorem bD(hF:Fol F F')(hR:∀k,¬F.R k)(hrs:fn.results= #[rv,rv'])(h:RV F σ rv s)(h':RV F σ rv' s')(hn:SubE new σ.d)(hcl:kJ (.tup [s,s']) new=true):XQ F' σ (Nk F fn (.tup [s,s']) new) .ret:=
 xM hF fun ρ a w u z=>by
  obtain⟨v,A,B⟩:=h ρ a w u z;obtain⟨E,C,D⟩:=h' ρ a w u z;exact⟨_,Sh hrs A C,_,rfl,Res.of_core hR u (PO B D) hn hcl⟩
theorem vT(hF:Fol F F')(hR:∀k,¬F.R k)(hrs:fn.results= #[rv,rv',rv2])(h:RV F σ rv s)(h':RV F σ rv' s')(h'':RV F σ rv2 s2)(hn:SubE new σ.d)(hcl:kJ (.tup [s,s',s2]) new=true):XQ F' σ (Nk F fn (.tup [s,s',s2]) new) .ret:=
 xM hF fun ρ a w u z=>by
  obtain⟨v,A,B⟩:=h ρ a w u z;obtain⟨H,C,D⟩:=h' ρ a w u z;obtain⟨I,E,G⟩:=h'' ρ a w u z;exact⟨_,Si hrs A C E,_,rfl,Res.of_core hR u (PQ B D G) hn hcl⟩
end
end Go.Sw
namespace Go.Sw
open Go Go.RowKit
theorem Res.same{ρ:Nat->LV}{S:Nat->Prop}{w:World}{s:Slot}{v:Value}(h:s.ok ρ S w v):Res ρ S w s [] v w:=
 ⟨ρ,fun _ _=>rfl,Below.refl _ _,Slot.ok_mono s v h ⟨aAi _,fun k _ u=>⟨rfl,fun h=>u (by
  rcases h with h |⟨i,A,z,_⟩
  ·exact h
  ·simp[aW] at z)⟩⟩ (fun _ _=>rfl),⟨fun _ _ h=>by simp[aW] at h,fun _ _ _ h=>by simp[aW] at h,fun _ _ _ _ _ h=>by simp[aW] at h⟩⟩
theorem xN(k:IntKind)(n:Int):Db k (k.wrap n):=by
 unfold Db;cases k<;>simp only[IntKind.min,IntKind.max,IntKind.wrap,IntKind.signed,IntKind.bits]<;>simp<;>(try split)<;>omega
section
variable {F:Frm}{σ:AS}{s:Slot}{d:Option Tmp}{ty:TypeId}{p:String}{af:Array Edge}{gd:Option (Nat×Bool)}{x y c:Operand}
theorem aD(hx:cK σ.g x=some s):JO F ⟨d,.move x,ty,p,af,gd⟩ σ s []:=
 fun _ _ _ w K=>OpWp.value (w':=w) (by simp[execOp]) (Res.same (K.slot x (by simp[Op.operands]) s hx))
theorem bB(hx:cK σ.g x=some s):JO F ⟨d,.assign x,ty,p,af,gd⟩ σ s []:=
 fun _ _ _ w K=>OpWp.value (w':=w) (by simp[execOp]) (Res.same (K.slot x (by simp[Op.operands]) s hx))
theorem Sj{α:Type}(e:Enc α)(ρ:Nat->LV)(S:Nat->Prop)(w:World):(Slot.v (Enc.sl e) []).ok ρ S w (.slice none 0 0):=by
 simp only[Slot.ok];exact rJ.2 ⟨none,0,rfl,by simp,.inl rfl⟩
theorem kK{α:Type}(e:Enc α):JO F ⟨d,.assign (.const (.slice none 0 0)),ty,p,af,gd⟩ σ (.v (Enc.sl e) []) []:=
 fun ρ S _ w _=>OpWp.value (w':=w) (by simp[execOp,Act.eval]) (Res.same (Sj e ρ S w))
theorem Od(T:TypeId)(ρ:Nat->LV)(S:Nat->Prop)(w:World):(Slot.v (Enc.err T) none).ok ρ S w .nilIface:=by
 simp only[Slot.ok];exact zU.2 rfl
theorem yE(T:TypeId):JO F ⟨d,.assign (.const .nilIface),ty,p,af,gd⟩ σ (.v (Enc.err T) none) []:=
 fun ρ S _ w _=>OpWp.value (w':=w) (by simp[execOp,Act.eval]) (Res.same (Od T ρ S w))
theorem Kr{α:Type}{w:World}{S:Nat->Prop}(T:TypeId)(e:Enc α)(i:Nat)(ρ:Nat->LV):Res ρ S w (.ref i) [(i,.arr T e [])] (.slice none 0 0) w:=by
 refine⟨fun j=>if j=i then .of (.slice none 0 0) else ρ j,fun j A=>?_,Below.refl _ _,by simp only[Slot.ok,aBb];exact⟨.inl ⟨_,_,_,rfl⟩,rfl⟩,⟨fun j z h=>?_,fun j z b h u=>?_,fun j k z B b h C u _=>?_⟩⟩
 ·have:j≠i:=fun e=>by subst e;simp[aW] at A
  simp[this]
 ·simp only[aW] at h;cases u:Nat.beq i j with
  |true=>have:=aAb u;subst this;rw[u] at h;simp at h;subst h;exact .inl ⟨rfl,by simp[LV.of]⟩
  |false=>rw[u] at h;simp at h
 ·simp only[aW] at h;cases hc:Nat.beq i j with
  |true=>have:=aAb hc;subst this;simp[nY,blk] at u
  |false=>rw[hc] at h;simp at h
 ·simp only[aW] at h;cases hc:Nat.beq i j with
  |true=>have:=aAb hc;subst this;simp[nY,blk] at u
  |false=>rw[hc] at h;simp at h
theorem aR{α:Type}(i:Nat)(T:TypeId)(e:Enc α):JO F ⟨d,.assign (.const (.slice none 0 0)),ty,p,af,gd⟩ σ (.ref i) [(i,.arr T e [])]:=
 fun ρ _ _ w _=>OpWp.value (w':=w) (by simp[execOp,Act.eval]) (Kr T e i ρ)
theorem Vv{σ:AS}{xs:Array Operand}{ρ S a w}(K:Know σ xs ρ S a w){x:Operand}(hm:x∈xs){b:Bool}(hx:cK σ.g x=some (.v Enc.bool b)):a.eval x= .bool b:=by
 have:=K.slot x hm _ hx;simp only[Slot.ok] at this;exact yO.1 this
theorem fB{σ:AS}{xs:Array Operand}{ρ S a w}(K:Know σ xs ρ S a w){x:Operand}(hm:x∈xs){k:IntKind}{n:Int}(hx:cK σ.g x=some (.v (Enc.int k) n)):a.eval x= .int k n/\Db k n:=by
 have:=K.slot x hm _ hx;simp only[Slot.ok] at this;exact Dc.1 this
theorem mS(b:Bool)(ρ:Nat->LV)(S:Nat->Prop)(w:World):(Slot.v Enc.bool b).ok ρ S w (.bool b):=by simp only[Slot.ok];exact yO.2 rfl
theorem sE{k:IntKind}{n:Int}(h:Db k n)(ρ:Nat->LV)(S:Nat->Prop)(w:World):(Slot.v (Enc.int k) n).ok ρ S w (.int k n):=by simp only[Slot.ok];exact Dc.2 ⟨rfl,h⟩
theorem DW(hc:cK σ.g c=some (.v Enc.bool true))(hx:cK σ.g x=some s):JO F ⟨d,.pick c x y,ty,p,af,gd⟩ σ s []:=
 fun _ _ _ w K=>OpWp.value (w':=w) (by simp[execOp,Vv K (x:=c) (by simp[Op.operands]) hc,asBool]) (Res.same (K.slot x (by simp[Op.operands]) s hx))
theorem DX(hc:cK σ.g c=some (.v Enc.bool false))(hy:cK σ.g y=some s):JO F ⟨d,.pick c x y,ty,p,af,gd⟩ σ s []:=
 fun _ _ _ w K=>OpWp.value (w':=w) (by simp[execOp,Vv K (x:=c) (by simp[Op.operands]) hc,asBool]) (Res.same (K.slot y (by simp[Op.operands]) s hy))
theorem zW{o:BinOp}{T T':TypeId}{v:Value}{k k':IntKind}{m n:Int}{ρ:Nat->LV}{S:Nat->Prop}
  {a:Act} {w:World} {s:Slot} (h1:a.eval x= .int k m) (h2:a.eval y= .int k' n) (h:(Go.binOp o T (.int k m) (.int k' n)).run F.P w= .ok v w) (hs:s.ok ρ S w v):
  OpWp F.P ⟨d,.binOp o T x y T',ty,p,af,gd⟩ a w (Res ρ S w s []):=by
 refine OpWp.value (w':=w) (v:=v) ?_ (Res.same hs);simp only[execOp,h1,h2];have:(eqGuard o T x y (.int k m) (.int k' n)).run F.P w= .ok () w:=by
  unfold eqGuard;by_cases u:(!(match o with | .eql | .neq=>true | _=>false))=true
  ·cases o<;>simp at u<;>simp
  ·cases o<;>simp at u<;>simp
 simp[this,h]
def ar(o:BinOp)(k:IntKind)(m n:Int):Int:=
 match o with
 | .add=>k.wrap (m+n)
 | .sub=>k.wrap (m - n)
 | .mul=>k.wrap (m*n)
 | .quo=>k.wrap (m.tdiv n)
 | .rem=>m.tmod n
 | .and=>k.wrap (BitVec.ofInt k.bits m &&& BitVec.ofInt k.bits n).toNat
 | .or=>k.wrap (BitVec.ofInt k.bits m ||| BitVec.ofInt k.bits n).toNat
 | .xor=>k.wrap (BitVec.ofInt k.bits m ^^^ BitVec.ofInt k.bits n).toNat
 | .andNot=>k.wrap (BitVec.ofInt k.bits m &&& ~~~ BitVec.ofInt k.bits n).toNat
 |_=>0
def cm(o:BinOp)(m n:Int):Bool:=
 match o with
 | .eql=>m==n
 | .neq=>m != n
 | .lss=>decide (m<n)
 | .leq=>decide (m<=n)
 | .gtr=>decide (m>n)
 | .geq=>decide (m>=n)
 |_=>false
def NB:BinOp->Bool
 | .add | .sub | .mul | .and | .or | .xor | .andNot=>true
 |_=>false
def PR:BinOp->Bool
 | .eql | .neq | .lss | .leq | .gtr | .geq=>true
 |_=>false
theorem cO{o:BinOp}{T T':TypeId}{k:IntKind}{m n:Int}(ho:NB o=true)(hx:cK σ.g x=some (.v (Enc.int k) m))(hy:cK σ.g y=some (.v (Enc.int k) n)):
  JO F ⟨d,.binOp o T x y T',ty,p,af,gd⟩ σ (.v (Enc.int k) (ar o k m n)) []:=by
 intro ρ S a w K;refine zW (fB K (by simp[Op.operands]) hx).1 (fB K (by simp[Op.operands]) hy).1 (v:= .int k (ar o k m n)) ?_ (sE ?_ ρ S w)
 ·cases o<;>simp[NB] at ho<;>simp[binOp,Op.intArith,Op.intBits,ar]
 ·cases o<;>simp[NB] at ho<;>exact xN _ _
theorem JG{k:IntKind}{m n:Int}(h:Db k m):Db k (m.tmod n):=by
 unfold Db at*;have u:(m.tmod n).natAbs<=m.natAbs:=by rw[Int.natAbs_tmod];exact Nat.mod_le _ _
 have z:0<=m->0<=m.tmod n:=fun h=>Int.tmod_nonneg _ h;have A:m<=0->m.tmod n<=0:=fun h=>by
  have:=Int.tmod_nonneg n (a:= -m) (by omega);rw[Int.neg_tmod] at this;omega
 have B:k.min<=0:=by cases k<;>decide
 have C:0<=k.max:=by cases k<;>decide
 omega
theorem DY{o:BinOp}{T T':TypeId}{k:IntKind}{m n:Int}(ho:o= .quo\/o= .rem)(hn:n≠0)(hx:cK σ.g x=some (.v (Enc.int k) m))(hy:cK σ.g y=some (.v (Enc.int k) n)):
  JO F ⟨d,.binOp o T x y T',ty,p,af,gd⟩ σ (.v (Enc.int k) (ar o k m n)) []:=by
 intro ρ S a w K;refine zW (fB K (by simp[Op.operands]) hx).1 (fB K (by simp[Op.operands]) hy).1 (v:= .int k (ar o k m n)) ?_ (sE ?_ ρ S w)
 ·rcases ho with rfl | rfl<;>simp[binOp,Op.intDiv,hn,ar]
 ·rcases ho with rfl | rfl
  ·exact xN _ _
  ·exact JG (fB K (by simp[Op.operands]) hx).2
theorem jO{o:BinOp}{T T':TypeId}{k:IntKind}{m n:Int}(ho:PR o=true)(hx:cK σ.g x=some (.v (Enc.int k) m))(hy:cK σ.g y=some (.v (Enc.int k) n)):
  JO F ⟨d,.binOp o T x y T',ty,p,af,gd⟩ σ (.v Enc.bool (cm o m n)) []:=by
 intro ρ S a w K;refine zW (fB K (by simp[Op.operands]) hx).1 (fB K (by simp[Op.operands]) hy).1 (v:= .bool (cm o m n)) ?_ (mS _ ρ S w);cases o<;>simp[PR] at ho<;>simp[binOp,Op.intCmp,cm]
def sh(o:BinOp)(k:IntKind)(m n:Int):Int:=
 match o with
 | .shl=>k.wrap (m*2 ^ min n.toNat k.bits)
 | .shr=>m.fdiv (2 ^ min n.toNat k.bits)
 |_=>0
theorem NC{k:IntKind}{m:Int}(h:Db k m)(j:Nat):Db k (m.fdiv (2 ^ j)):=by
 unfold Db at*;have u:(0:Int)<2 ^ j:=aEx (by decide);have z:k.min<=0:=by cases k<;>decide
 have A:0<=k.max:=by cases k<;>decide
 rw[aBj _ (aEb u)];constructor
 ·refine(Int.le_ediv_iff_mul_le u).2 ?_;have:k.min*2 ^ j<=k.min*1:=Int.mul_le_mul_of_nonpos_left z (by omega);omega
 ·refine Int.le_trans (Int.ediv_le_ediv u h.2) ?_;exact Int.ediv_le_self _ A
theorem eK{o:BinOp}{T T':TypeId}{k k':IntKind}{m n:Int}(ho:o= .shl\/o= .shr)(hn:0<=n)(hx:cK σ.g x=some (.v (Enc.int k) m))(hy:cK σ.g y=some (.v (Enc.int k') n)):
  JO F ⟨d,.binOp o T x y T',ty,p,af,gd⟩ σ (.v (Enc.int k) (sh o k m n)) []:=by
 intro ρ S a w K;refine zW (fB K (by simp[Op.operands]) hx).1 (fB K (by simp[Op.operands]) hy).1 (v:= .int k (sh o k m n)) ?_ (sE ?_ ρ S w)
 ·have:¬n<0:=by omega
  rcases ho with rfl | rfl<;>simp[binOp,Op.shift,this,sh]
 ·rcases ho with rfl | rfl
  ·exact xN _ _
  ·exact NC (fB K (by simp[Op.operands]) hx).2 _
theorem Er{T:TypeId}{b:Bool}(hx:cK σ.g x=some (.v Enc.bool b)):JO F ⟨d,.unOp .not T x,ty,p,af,gd⟩ σ (.v Enc.bool (!b)) []:=
 fun ρ S _ w K=>OpWp.value (w':=w) (v:= .bool (!b)) (by simp[execOp,Vv K (x:=x) (by simp[Op.operands]) hx,Op.unary]) (Res.same (mS _ ρ S w))
theorem DZ{T:TypeId}{k:IntKind}{n:Int}(hx:cK σ.g x=some (.v (Enc.int k) n)):JO F ⟨d,.unOp .neg T x,ty,p,af,gd⟩ σ (.v (Enc.int k) (k.wrap (0 - n))) []:=
 fun ρ S _ w K=>OpWp.value (w':=w) (v:= .int k (k.wrap (0 - n))) (by simp[execOp,(fB K (x:=x) (by simp[Op.operands]) hx).1,Op.unary,Op.intArith]) (Res.same (sE (xN _ _) ρ S w))
def AU(k:IntKind)(n:Int):Int:=k.wrap (BitVec.ofInt k.bits (if k.signed then -1 else k.max) ^^^ BitVec.ofInt k.bits n).toNat
theorem ND{T:TypeId}{k:IntKind}{n:Int}(hx:cK σ.g x=some (.v (Enc.int k) n)):JO F ⟨d,.unOp .xor T x,ty,p,af,gd⟩ σ (.v (Enc.int k) (AU k n)) []:=
 fun ρ S _ w K=>OpWp.value (w':=w) (v:= .int k (AU k n)) (by simp[execOp,(fB K (x:=x) (by simp[Op.operands]) hx).1,Op.unary,Op.intBits,AU]) (Res.same (sE (xN _ _) ρ S w))
theorem Yh{A B:TypeId}{da:TypeDesc}{k k':IntKind}{n:Int}(ha:∀w,(underlying A).run F.P w= .ok da w)(hb:∀w,(underlying B).run F.P w= .ok (.int k') w)(hx:cK σ.g x=some (.v (Enc.int k) n)):
  JO F ⟨d,.convert A B x,ty,p,af,gd⟩ σ (.v (Enc.int k') (k'.wrap n)) []:=
 fun ρ S _ w K=>OpWp.value (w':=w) (v:= .int k' (k'.wrap n)) (by simp[execOp,(fB K (x:=x) (by simp[Op.operands]) hx).1,convert,ha,hb,Conv.intToInt]) (Res.same (sE (xN _ _) ρ S w))
theorem EA{T:TypeId}{n:Int}(ha:∀w,(underlying T).run F.P w= .ok (.int .i64) w)(hx:cK σ.g x=some (.v (Enc.int .i64) n)):
  JO F ⟨d,.makeInterface T x,ty,p,af,gd⟩ σ (.v (Enc.err T) (some n)) []:=by
 intro ρ S a w K;obtain⟨h,u⟩:=fB K (x:=x) (by simp[Op.operands]) hx;exact OpWp.value (w':=w) (v:= .iface T (.int .i64 n)) (by simp[execOp,h,Instr.makeInterface,ha]) (Res.same (by simp only[Slot.ok];exact zV.2 ⟨rfl,u⟩))
theorem bH{n:Nat}{l:List Slot}(hx:cK σ.g x=some (.tup l))(hs:l[n]? =some s):JO F ⟨d,.extract x n,ty,p,af,gd⟩ σ s []:=by
 intro ρ S a w K;have h:=K.slot x (by simp[Op.operands]) _ hx;simp only[Slot.ok] at h;obtain⟨vs,E,G⟩:=h;have D:∀(l:List Slot) (vs:List Value) (n:Nat),aV ρ S w l vs->l[n]? =some s->∃v,vs[n]? =some v/\s.ok ρ S w v:=by
  intro l
  induction l with
  |nil=>intro vs n _ h;simp at h
  |cons t l I=>
   intro vs n C z;simp only[aV] at C;obtain⟨u,H,rfl,A,B⟩:=C;cases n with
   |zero=>simp at z;subst z;exact⟨u,rfl,A⟩
   |succ n=>exact I H n B (by simpa using z)
 obtain⟨v,A,B⟩:=D l vs n G hs;exact OpWp.value (w':=w) (v:=v) (by simp[execOp,E,Instr.extract,A]) (Res.same B)
theorem Yi{σ:AS}{xs:Array Operand}{ρ S a w}(K:Know σ xs ρ S a w){x:Operand}(hm:x∈xs){T:TypeId}{o:Option Int}(hx:cK σ.g x=some (.v (Enc.err T) o)):
  a.eval x=(match o with | none=> .nilIface | some n=> .iface T (.int .i64 n)):=by
 have:=K.slot x hm _ hx;simp only[Slot.ok] at this;cases o with
 |none=>exact zU.1 this
 |some n=>exact(zV.1 this).1
theorem Sk(t:TypeId)(x y:Value):Op.equal t x y=Op.equalIn (9998+1+1) t x y:=rfl
theorem Vx{P:Program}{a:Act}{w:World}{o:BinOp}{T T':TypeId}{u v:Value}{r b:Bool}(ho:(o= .eql/\b=r)\/(o= .neq/\b= !r))(hx:a.eval x=u)(hy:a.eval y=v)
  (hk:∀k m,u≠.int k m) (hs:∀s,u≠.string s) (hf:∀k m,u≠.float k m) (hc:∀k m n,u≠.complex k m n)
  (hg:(eqGuard o T x y u v).run P w= .ok () w) (he:(Op.equalIn (9998+1+1) T u v).run P w= .ok r w):
  (execOp a.eval ⟨d,.binOp o T x y T',ty,p,af,gd⟩).run P w= .ok (.value (.bool b)) w:=by
 have h:(Go.binOp o T u v).run P w= .ok (.bool b) w:=by
  rcases ho with⟨rfl,rfl⟩|⟨rfl,rfl⟩
  ·have:Go.binOp .eql T u v=(do pure (.bool (<-Op.equal T u v))):=by
    cases u<;>first | rfl | (exact absurd rfl (hk _ _)) | (exact absurd rfl (hs _)) | (exact absurd rfl (hf _ _)) | (exact absurd rfl (hc _ _ _))
   rw[this,Sk];simp[he]
  ·have:Go.binOp .neq T u v=(do pure (.bool (!(<-Op.equal T u v)))):=by
    cases u<;>first | rfl | (exact absurd rfl (hk _ _)) | (exact absurd rfl (hs _)) | (exact absurd rfl (hf _ _)) | (exact absurd rfl (hc _ _ _))
   rw[this,Sk];simp[he]
 simp only[execOp,hx,hy];simp[hg,h]
theorem EB{P:Program}{w:World}{U T:TypeId}{ms:Array (String×TypeId)}{ti:TypeInfo}(ha:∀w,(underlying U).run P w= .ok (.interface ms) w)(hT:∀w,(underlying T).run P w= .ok (.int .i64) w)
  (hi:∀w,(typeInfo T).run P w= .ok ti w) (hcmp:ti.comparable=true) (m n:Int):(Op.equalIn (9998+1+1) U (.iface T (.int .i64 m)) (.iface T (.int .i64 n))).run P w= .ok (m==n) w:=by
 rw[Op.equalIn];simp only[Sem.run_bind,ha,Result.andThen_ok];simp only[ne_eq,aC0,aA4,Sem.run_bind,hi,Result.andThen_ok,hcmp,aBz,aAw];rw[Op.equalIn];simp[hT]
theorem Ca{P:Program}{w:World}{U T:TypeId}{ms:Array (String×TypeId)}(ha:∀w,(underlying U).run P w= .ok (.interface ms) w)(v:Value):(Op.equalIn (9998+1+1) U (.iface T v) .nilIface).run P w= .ok false w/\(Op.equalIn (9998+1+1) U .nilIface (.iface T v)).run P w= .ok false w/\(Op.equalIn (9998+1+1) U .nilIface .nilIface).run P w= .ok true w:=by
 refine⟨?_,?_,?_⟩<;>(rw[Op.equalIn];simp[ha])
theorem gU{T U U':TypeId}{o:Option Int}{ms:Array (String×TypeId)}(ha:∀w,(underlying U).run F.P w= .ok (.interface ms) w)(hx:cK σ.g x=some (.v (Enc.err T) o)):
  JO F ⟨d,.binOp .eql U x (.const .nilIface) U',ty,p,af,gd⟩ σ (.v Enc.bool o.isNone) []:=by
 intro ρ S a w K;have h:=Yi K (x:=x) (by simp[Op.operands]) hx;refine OpWp.value (w':=w) (v:= .bool o.isNone) (Vx (r:=o.isNone) ?_ h rfl ?_ ?_ ?_ ?_ ?_ ?_) (Res.same (mS _ ρ S w))
 ·cases o<;>simp
 ·cases o<;>simp
 ·cases o<;>simp
 ·cases o<;>simp
 ·cases o<;>simp
 ·cases o<;>simp[eqGuard,Act.eval]
 ·cases o with
  |none=>exact(Ca (T:=T) ha .nilIface).2.2
  |some n=>exact(Ca ha _).1
theorem EC{T U U':TypeId}{o:Option Int}{ms:Array (String×TypeId)}(ha:∀w,(underlying U).run F.P w= .ok (.interface ms) w)(hx:cK σ.g x=some (.v (Enc.err T) o)):
  JO F ⟨d,.binOp .neq U x (.const .nilIface) U',ty,p,af,gd⟩ σ (.v Enc.bool o.isSome) []:=by
 intro ρ S a w K;have h:=Yi K (x:=x) (by simp[Op.operands]) hx;refine OpWp.value (w':=w) (v:= .bool o.isSome) (Vx (r:=o.isNone) ?_ h rfl ?_ ?_ ?_ ?_ ?_ ?_) (Res.same (mS _ ρ S w))
 ·cases o<;>simp
 ·cases o<;>simp
 ·cases o<;>simp
 ·cases o<;>simp
 ·cases o<;>simp
 ·cases o<;>simp[eqGuard,Act.eval]
 ·cases o with
  |none=>exact(Ca (T:=T) ha .nilIface).2.2
  |some n=>exact(Ca ha _).1
theorem AV{T U U':TypeId}{o:Option Int}{n:Int}{ms:Array (String×TypeId)}{ti:TypeInfo}(ha:∀w,(underlying U).run F.P w= .ok (.interface ms) w)(hT:∀w,(underlying T).run F.P w= .ok (.int .i64) w)
  (hi:∀w,(typeInfo T).run F.P w= .ok ti w) (hcmp:ti.comparable=true)
  (hx:cK σ.g x=some (.v (Enc.err T) o)) (hy:cK σ.g y=some (.v (Enc.err T) (some n))):
  JO F ⟨d,.binOp .eql U x y U',ty,p,af,gd⟩ σ (.v Enc.bool (o==some n)) []:=by
 intro ρ S a w K;have h:=Yi K (x:=x) (by simp[Op.operands]) hx;have u:=Yi K (x:=y) (by simp[Op.operands]) hy;refine OpWp.value (w':=w) (v:= .bool (o==some n)) (Vx (r:=(o==some n)) ?_ h u ?_ ?_ ?_ ?_ ?_ ?_) (Res.same (mS _ ρ S w))
 ·simp
 ·cases o<;>simp
 ·cases o<;>simp
 ·cases o<;>simp
 ·cases o<;>simp
 ·cases o<;>simp[eqGuard]
 ·cases o with
  |none=>exact(Ca ha _).2.1
  |some m=>rw[EB ha hT hi hcmp];rfl
end
end Go.Sw
namespace Go.Sw
open Go Go.RowKit
theorem MemAt.cell{w:World}{b off:Nat}{cs:List Value}(h:MemAt w b off cs):∀j v,cs[j]? =some v->w.cell? ((⟨b,off,none⟩:Addr).add j)=some v:=by
 obtain⟨c,T,D,B,C⟩:=h;intro j v A;have u:j<cs.length:=by
  rcases aBc j cs.length with h | h
  ·exact h
  ·simp[aAv h] at A
 have z:cs[j]=v:=by simpa[aAg u] using A
 have:=C j u;unfold Addr.add;split
 ·rename_i e;subst e;simp[World.cell?,B];simpa[z] using this
 ·simp[World.cell?,B,this,z]
theorem MemAt.sub{w:World}{b off:Nat}{a c d:List Value}(h:MemAt w b off (a++(c++d))):MemAt w b (off+a.length) c:=by
 obtain⟨r,T,z,A,B⟩:=h;refine⟨r,T,z,A,fun j u=>?_⟩;have:=B (a.length+j) (by simp;omega);rw[aDs,this];simp[aC7 u]
theorem MemAt.of_heap{w:World}{b:Nat}{cs:List Value}{T fr}(h:w.heap[b]? =some (.cells cs.toArray T fr)):MemAt w b 0 cs:=
 ⟨_,T,fr,h,fun j u=>by simp[aAg u]⟩
theorem MemAt.lt{w:World}{b off:Nat}{cs:List Value}(h:MemAt w b off cs):b<w.heap.size:=by
 obtain⟨r,T,z,u,A⟩:=h;rcases aBc b w.heap.size with h | h
 ·exact h
 ·simp[aBv h] at u
theorem Es{α:Type}{P:Program}{e:Enc α}{x:α}{S:Nat->Prop}{w w0:World}{b off:Nat}{cs:List Value}{U:TypeId}(h:MemAt w b off cs)(ho:e.ok x S w0 cs)
  (hA:∀w,(isAgg U).run P w= .ok e.agg w) (hS:∀w,(sizeOf U).run P w= .ok e.n w):(loadVar U ⟨b,off,none⟩).run P w= .ok (e.pk cs) w:=by
 unfold loadVar;simp only[Sem.run_bind,hA,Result.andThen_ok];have u:=e.len ho;cases ha:e.agg with
 |true=>
  simp only[aBb,Sem.run_bind,hS,Result.andThen_ok,Enc.pk,ha];rw[<-u,run_loadCells_list w _ cs h.cell];simp
 |false=>
  have z:=e.one ha;rw[z] at u;obtain⟨v,rfl⟩:=aCf.1 u;have:=h.cell 0 v rfl;simp[Addr.add] at this;simp[Enc.pk,ha,this]
def Slot.sz:Slot->Nat
 | .v e _=>e.n
 |_=>1
def Slot.ag:Slot->Bool
 | .v e _=>e.agg
 |_=>false
section
variable {ρ:Nat->LV}{S:Nat->Prop}{w:World}
theorem mT{s:Slot}{c:List Value}(h:s.okc ρ S w c):c.length=s.sz:=by
 cases s<;>simp only[Slot.okc] at h<;>simp only[Slot.sz]
 case v e x=>exact e.len h
 case ref=>rw[h.2];rfl
 case ptr=>rw[h.2];rfl
 case pel=>rw[h.2];rfl
 case el=>rw[h.2];rfl
 case asl=>rw[h.2];rfl
 case esl=>rw[h.2];rfl
 case sub=>obtain⟨_,u,z,_,_,h⟩:=h;rw[h];rfl
 case pst=>obtain⟨b,A,B,h,_⟩:=h;rw[h];rfl
 case fnc=>obtain⟨vs,h,_⟩:=h;rw[h];rfl
 case top=>rw[h];rfl
theorem Yj{s:Slot}{c:List Value}(h:s.okc ρ S w c):s.ok ρ S w (if s.ag then .agg c.toArray else c.headD undef):=by
 cases s<;>simp only[Slot.okc] at h<;>simp only[Slot.ok,Slot.ag]
 case v e x=>exact⟨c,h,rfl⟩
 case ref=>rw[h.2];exact⟨h.1,rfl⟩
 case ptr=>rw[h.2];exact⟨h.1,rfl⟩
 case pel=>rw[h.2];exact⟨h.1,rfl⟩
 case el=>rw[h.2];exact⟨h.1,rfl⟩
 case asl=>rw[h.2];exact⟨h.1,rfl⟩
 case esl=>rw[h.2];exact⟨h.1,rfl⟩
 case sub=>obtain⟨z,A,B,C,D,E⟩:=h;rw[E];exact⟨z,A,B,C,D,rfl⟩
 case pst=>obtain⟨b,F,G,h,u⟩:=h;rw[h];exact⟨b,F,G,rfl,u⟩
 case fnc=>obtain⟨vs,h,u⟩:=h;rw[h];exact⟨vs,rfl,u⟩
 case top=>rw[h];rfl
def Slot.plain:Slot->Bool
 | .agg _=>false
 | .tup _=>false
 | .top=>false
 |_=>true
theorem pY{s:Slot}{v:Value}(hp:s.plain=true)(h:s.ok ρ S w v):s.okc ρ S w v.cells.toList:=by
 cases s<;>simp only[Slot.plain,aAw] at hp<;>simp only[Slot.ok] at h<;>simp only[Slot.okc]
 case v e x=>
  obtain⟨H,z,rfl⟩:=h;unfold Enc.pk;cases ha:e.agg with
  |true=>simpa[Value.cells] using z
  |false=>
   have B:=e.len z;rw[e.one ha] at B;obtain⟨u,rfl⟩:=aCf.1 B;have:=Qc (e.cell z u (by simp));simp[this,z]
 case ref i=>
  obtain⟨⟨a,l,c,z⟩|⟨a,z⟩,rfl⟩:=h
  ·exact⟨.inl ⟨a,l,c,z⟩,by simp[z,Value.cells]⟩
  ·exact⟨.inr ⟨a,z⟩,by simp[z,Value.cells]⟩
 case ptr i A=>obtain⟨⟨b,z⟩,rfl⟩:=h;exact⟨⟨b,z⟩,by simp[z,Bz,Value.cells]⟩
 case pel i A k n=>obtain⟨⟨b,z⟩,rfl⟩:=h;exact⟨⟨b,z⟩,by simp[z,Bz,Value.cells]⟩
 case el i k n A=>obtain⟨⟨b,o,l,c,z⟩,rfl⟩:=h;exact⟨⟨b,o,l,c,z⟩,by simp[z,Kl,Value.cells]⟩
 case asl i A lo n cap=>obtain⟨⟨b,z⟩,rfl⟩:=h;exact⟨⟨b,z⟩,by simp[z,DT,Value.cells]⟩
 case esl i A n cap=>obtain⟨⟨b,o,l,c,z⟩,rfl⟩:=h;exact⟨⟨b,o,l,c,z⟩,by simp[z,DU,Value.cells]⟩
 case sub i A n=>obtain⟨⟨a,l,c,z⟩,C,D,E,F,rfl⟩:=h;exact⟨⟨a,l,c,z⟩,C,D,E,F,by rw[z];cases a<;>simp[Se,Value.cells]⟩
 case pst e x=>obtain⟨b,A,G,rfl,z⟩:=h;exact⟨b,A,G,rfl,z⟩
 case fnc g cap=>obtain⟨vs,rfl,z⟩:=h;exact⟨vs,rfl,z⟩
def mP:List Slot->Nat->Option Slot
 | [],_=>none
 |s::r,off=>bif Nat.beq off 0 then some s else bif Nat.ble s.sz off then mP r (off - s.sz) else none
def nD:List Slot->Nat->Slot->List Slot
 | [],_,_=>[]
 |s::r,off,h=>bif Nat.beq off 0 then h::r else s::nD r (off - s.sz) h
theorem tZ:∀{l:List Slot} {off:Nat} {s:Slot} {cs:List Value},mP l off=some s->aZ ρ S w l cs->
  ∃a c d,cs=a++(c++d)/\a.length=off/\s.okc ρ S w c/\∀s' c',s'.okc ρ S w c'->aZ ρ S w (nD l off s') (a++(c'++d))
 | [],_,_,_,h,_=>by simp[mP] at h
 |t::r,off,s,cs,h,k=>by
  simp only[aZ] at k;obtain⟨c,d,rfl,z,B⟩:=k;simp only[mP] at h;cases hb:Nat.beq off 0 with
  |true=>
   rw[hb] at h;simp at h;subst h;have:=aAb hb;subst this;exact⟨[],c,d,rfl,rfl,z,fun s' c' u=>by simp only[nD,aBd];exact⟨c',d,rfl,u,B⟩⟩
  |false=>
   rw[hb] at h;simp only[pF] at h;cases hle:Nat.ble t.sz off with
   |false=>rw[hle] at h;simp at h
   |true=>
    rw[hle] at h;have I:=aAd hle;obtain⟨C,c',D,E,F,G,H⟩:=tZ (l:=r) (by simpa using h) B;refine⟨c++C,c',D,by rw[E,aAm],by rw[sM,mT z,F];omega,G,fun s' A u=>?_⟩;simp only[nD,hb,pF,aZ];exact⟨c,C++(A++D),by rw[aAm],z,H s' A u⟩
def Spl{α:Type}(l:List Slot)(e:Enc α)(x:α):Prop:=∀ρ S w cs,aZ ρ S w l cs↔e.ok x S w cs
theorem Spl.one{α:Type}(e:Enc α)(x:α):Spl [.v e x] e x:=by
 intro ρ S w cs;simp only[aZ,Slot.okc];constructor
 ·rintro⟨c,d,rfl,h,rfl⟩;simpa using h
 ·intro h;exact⟨cs,[],by simp,h,rfl⟩
theorem wJ{l l':List Slot}{ρ S w}:∀{cs},aZ ρ S w (l++l') cs↔∃c d,cs=c++d/\aZ ρ S w l c/\aZ ρ S w l' d:=by
 induction l with
 |nil=>
  intro cs;simp only[aBd,aZ];constructor
  ·intro h;exact⟨[],cs,rfl,rfl,h⟩
  ·rintro⟨c,d,rfl,rfl,h⟩;simpa using h
 |cons t l D=>
  intro cs;simp only[aBh,aZ,D];constructor
  ·rintro⟨c,d,rfl,z,u,C,rfl,A,B⟩;exact⟨c++u,C,by simp,⟨c,u,rfl,z,A⟩,B⟩
  ·rintro⟨_,d,rfl,⟨c,u,rfl,z,A⟩,B⟩;exact⟨c,u++d,by simp,z,u,d,rfl,A,B⟩
theorem Spl.pr{α β:Type}{l l':List Slot}{a:Enc α}{b:Enc β}{x:α×β}(h:Spl l a x.1)(h':Spl l' b x.2):Spl (l++l') (Enc.pr a b) x:=by
 intro ρ S w cs;rw[wJ];constructor
 ·rintro⟨c,d,rfl,u,z⟩;exact⟨c,d,rfl,(h ρ S w c).1 u,(h' ρ S w d).1 z⟩
 ·rintro⟨c,d,rfl,u,z⟩;exact⟨c,d,rfl,(h ρ S w c).2 u,(h' ρ S w d).2 z⟩
theorem Spl.one1{α:Type}{l:List Slot}{a:Enc α}{x:α}(h:Spl l a x):Spl l (Enc.one1 a) x:=h
end
end Go.Sw
namespace Go.Sw
open Go Go.RowKit
theorem ED{ρ:Nat->LV}{S:Nat->Prop}{w w':World}{v:Value}{i:Nat}{en:Ent}{s:Slot}(u:LV)(hb:Below w.heap.size w w')
  (hlab:en.lab.all (fun j=> !Nat.beq j i)=true)
  (hblk:∀b,pV u b->w.heap.size<=b/\b<w'.heap.size)
  (hen:∀S' ρ',(∀k,k<w.heap.size->S' k->S k)->lP ρ ρ' en.lab->en.ok ρ' S' w' u)
  (hs:∀S' ρ',(∀k,k<w.heap.size->S' k->S k)->(ρ' i).v=u.v->(∀j,j≠i->ρ' j=ρ j)->s.ok ρ' S' w' v):Res ρ S w s [(i,en)] v w':=by
 let ρ':Nat->LV:=fun j=>if j=i then u else ρ j
 have B:ρ' i=u:=aAn rfl;have C:∀j,j≠i->ρ' j=ρ j:=fun j h=>aAj h;have A:∀j z,aW [(i,en)] j=some z->j=i/\z=en:=by
  intro j z h;simp only[aW] at h;cases hb:Nat.beq i j with
  |true=>have:=aAb hb;subst this;rw[hb] at h;simp at h;exact⟨rfl,h.symm⟩
  |false=>rw[hb] at h;simp at h
 have D:∀k,k<w.heap.size->Un S ρ' [(i,en)] k->S k:=by
  rintro k M (h |⟨j,z,L,F⟩)
  ·exact h
  ·obtain⟨rfl,rfl⟩:=A j z L;rw[B] at F;have:=(hblk k F).1;omega
 refine⟨ρ',fun j h=>C j (fun e=>by subst e;simp[aW] at h),hb,hs _ _ D (congrArg LV.v B) C,⟨fun j z h=>?_,fun j z b h E=>?_,fun j k z G b h H _ _=>?_⟩⟩
 ·obtain⟨rfl,rfl⟩:=A j z h;rw[B];refine hen _ _ D fun I K=>congrArg LV.v (C I fun e=>?_);subst e;have:=aAh.1 hlab _ K;simp at this
 ·obtain⟨rfl,rfl⟩:=A j z h;rw[B] at E;exact hblk b E
 ·rw[(A j z h).1,(A k G H).1]
theorem yQ{ρ:Nat->LV}{S:Nat->Prop}{w w':World}{v:Value}{i:Nat}{en:Ent}{s:Slot}(u:Value)(hb:Below w.heap.size w w')
  (hlab:en.lab.all (fun j=> !Nat.beq j i)=true)
  (hblk:∀b,blk u=some b->w.heap.size<=b/\b<w'.heap.size)
  (hen:∀S' ρ',(∀k,k<w.heap.size->S' k->S k)->lP ρ ρ' en.lab->en.ok ρ' S' w' (.of u))
  (hs:∀S' ρ',(∀k,k<w.heap.size->S' k->S k)->(ρ' i).v=u->(∀j,j≠i->ρ' j=ρ j)->s.ok ρ' S' w' v):Res ρ S w s [(i,en)] v w':=
 ED (.of u) hb hlab (fun b h=>hblk b (nY.1 h)) hen hs
theorem kP(w:World)(o:Obj):Below w.heap.size w (w.alloc o):=(Below.refl _ _).alloc (aAi _) o
theorem Qe{S S':Nat->Prop}{w w':World}(hb:Below w.heap.size w w')(h:∀k,k<w.heap.size->S' k->S k):Ext S S' w w':=qL hb h
theorem Res.box{ρ:Nat->LV}{S:Nat->Prop}{w:World}{T:TypeId}{l:List Slot}{cs:List Value}(i:Nat)(hl:aZ ρ S w l cs)
  (hlab:(dF l).all (fun j=> !Nat.beq j i)=true):Res ρ S w (.ptr i 0) [(i,.box T l)] (.pointer (some ⟨w.heap.size,0,none⟩)) (w.alloc (.cells cs.toArray T)):=by
 refine yQ (.pointer (some ⟨w.heap.size,0,none⟩)) (kP _ _) hlab ?_ ?_ ?_
 ·intro b u;simp[blk] at u;subst u;exact⟨aAi _,by simp⟩
 ·intro z ρ' h ha;exact⟨⟨_,cs,rfl,heap_alloc_new _ _,eZ l cs hl (Qe (kP _ _) h) ha⟩,fun _ h=>by cases h⟩
 ·intro z ρ' _ hi _;simp only[Slot.ok];exact⟨⟨_,hi⟩,by rw[hi];rfl⟩
section
variable {F:Frm}{σ:AS}{pb:Option Nat}{s:Slot}{d:Option Tmp}{ty:TypeId}{p:String}{af:Array Edge}{gd:Option (Nat×Bool)}{x y c:Operand}
theorem wK(P:Program)(w:World)(T:TypeId)(v:Value):(newVar T v).run P w= .ok ⟨w.heap.size,0,none⟩ (w.alloc (.cells v.cells T)):=by
 simp[newVar,newRow]
theorem bU{α:Type}{e:Enc α}{z:α}{T:TypeId}{l:List Slot}(i:Nat)(hx:cK σ.g x=some (.v e z))(hl:Spl l e z)(hlab:(dF l).all (fun j=> !Nat.beq j i)=true):
  JO F ⟨d,.box T x,ty,p,af,gd⟩ σ (.ptr i 0) [(i,.box T l)]:=by
 intro ρ S a w K;have h:=pY (s:= .v e z) rfl (K.slot x (by simp[Op.operands]) _ hx);simp only[Slot.okc] at h;refine OpWp.value (w':=w.alloc (.cells (a.eval x).cells.toList.toArray T)) (v:= .pointer (some ⟨w.heap.size,0,none⟩)) (by simp[execOp,Instr.box,wK]) ?_;exact Res.box i ((hl ρ S w _).2 h) hlab
theorem yR{T:TypeId}{l:List Slot}(i:Nat)(hx:cK σ.g x=some (.agg l))(hlab:(dF l).all (fun j=> !Nat.beq j i)=true):
  JO F ⟨d,.box T x,ty,p,af,gd⟩ σ (.ptr i 0) [(i,.box T l)]:=by
 intro ρ S a w K;have h:=K.slot x (by simp[Op.operands]) _ hx;simp only[Slot.ok] at h;obtain⟨u,z,A⟩:=h;refine OpWp.value (w':=w.alloc (.cells u.toArray T)) (v:= .pointer (some ⟨w.heap.size,0,none⟩)) (by simp[execOp,Instr.box,wK,z,Value.cells]) ?_;exact Res.box i A hlab
def Zr(cs:List Value)(l:List Slot):Prop:=∀ρ S w,aZ ρ S w l cs
theorem Zr.nil:Zr [] []:=fun _ _ _=>rfl
theorem Zr.cons{cs:List Value}{l:List Slot}{α:Type}{e:Enc α}{z:α}{c:List Value}(h:∀S w,e.ok z S w c)(k:Zr cs l):Zr (c++cs) (.v e z::l):=fun ρ S w=>by
 simp only[aZ];exact⟨c,cs,rfl,by simp only[Slot.okc];exact h S w,k ρ S w⟩
theorem Z.int(k:IntKind):∀S w,(Enc.int k).ok 0 S w [.int k 0]:=fun _ _=>⟨rfl,by cases k<;>decide⟩
theorem Z.bool:∀S w,Enc.bool.ok false S w [.bool false]:=fun _ _=>rfl
theorem Z.sl{α:Type}(e:Enc α):∀S w,(Enc.sl e).ok [] S w [.slice none 0 0]:=fun _ _=>⟨none,0,rfl,by simp,.inl rfl⟩
theorem Z.err(T:TypeId):∀S w,(Enc.err T).ok none S w [.nilIface]:=fun _ _=>rfl
theorem Z.arr{α:Type}{e:Enc α}{z:α}{c:List Value}(m:Nat)(h:∀S w,e.ok z S w c):∀S w,(Enc.arr m e).ok (List.replicate m z) S w (List.replicate m c).flatten:=by
 intro S w;refine⟨by simp,?_⟩
 induction m with
 |zero=>simp[Enc.okL]
 |succ m u=>rw[aDr,aDr,aC1];exact⟨c,_,rfl,h S w,u⟩
theorem Z.pr{α β:Type}{a:Enc α}{b:Enc β}{x:α}{y:β}{c d:List Value}(h:∀S w,a.ok x S w c)(k:∀S w,b.ok y S w d):∀S w,(Enc.pr a b).ok (x,y) S w (c++d):=fun S w=>⟨c,d,rfl,h S w,k S w⟩
theorem aM{T:TypeId}{z:Value}{cs:List Value}{l:List Slot}(i:Nat)(hz:∀w,(zeroValue T).run F.P w= .ok z w)(hc:z.cells=cs.toArray)(hl:Zr cs l)(hlab:(dF l).all (fun j=> !Nat.beq j i)=true):
  JO F ⟨d,.alloc T,ty,p,af,gd⟩ σ (.ptr i 0) [(i,.box T l)]:=by
 intro ρ S a w K;refine OpWp.value (w':=w.alloc (.cells cs.toArray T)) (v:= .pointer (some ⟨w.heap.size,0,none⟩)) (by simp[execOp,Instr.alloc,hz,wK,hc]) ?_;exact Res.box i (hl ρ S w) hlab
theorem yS{xs:Array Operand}{ρ:Nat->LV}{S a w}(K:Know σ xs ρ S a w)(hm:x∈xs){i off:Nat}{T:TypeId}{l:List Slot}(hx:cK σ.g x=some (.ptr i off))(he:aW σ.d i=some (.box T l pb)):
  ∃b cs,(ρ i).v= .pointer (some ⟨b,0,none⟩)/\a.eval x= .pointer (some ⟨b,off,none⟩)/\w.heap[b]? =some (.cells cs.toArray T (0,0))/\aZ ρ S w l cs:=by
 have h:=K.slot x hm _ hx;simp only[Slot.ok] at h;obtain⟨⟨b,u⟩,z⟩:=h;have:=(K.ent x hm _ hx i (by simp[Slot.lab]) _ he).1;rw[u] at z;obtain⟨⟨A,cs,B,C,D⟩,_⟩:=this;have:A=b:=by rw[u] at B;simpa using B.symm
 subst this;exact⟨A,cs,u,z,C,D⟩
theorem aI{T U:TypeId}{l:List Slot}{i off:Nat}(hx:cK σ.g x=some (.ptr i off))(he:aW σ.d i=some (.box T l pb))(ho:mP l off=some s)
  (hA:∀w,(isAgg U).run F.P w= .ok s.ag w) (hS:∀w,(sizeOf U).run F.P w= .ok s.sz w):JO F ⟨d,.load U x,ty,p,af,gd⟩ σ s []:=by
 intro ρ S a w K;obtain⟨b,G,z,C,D,E⟩:=yS K (by simp[Op.operands]) hx he;obtain⟨A,c,H,rfl,rfl,B,_⟩:=tZ ho E;have h:MemAt w b A.length c:=by have:=(MemAt.of_heap D).sub;simpa using this
 have u:=mT B;refine OpWp.value (w':=w) (v:=if s.ag then .agg c.toArray else c.headD undef) ?_ (Res.same (Yj B));have:(loadVar U ⟨b,A.length,none⟩).run F.P w= .ok (if s.ag then .agg c.toArray else c.headD undef) w:=by
  unfold loadVar;simp only[Sem.run_bind,hA,Result.andThen_ok];cases ha:s.ag with
  |true=>
   simp only[aBb,Sem.run_bind,hS,Result.andThen_ok];rw[<-u,run_loadCells_list w _ c h.cell];simp
  |false=>
   have z:c.length=1:=by
    rw[u];cases s<;>simp only[Slot.ag,Slot.sz] at ha ⊢;exact Enc.one _ ha
   obtain⟨v,rfl⟩:=aCf.1 z;have:=h.cell 0 v rfl;simp[Addr.add] at this;simp[this]
 simp[execOp,C,Instr.loadAt,Instr.sureAddr,this]
theorem aX{α:Type}{e:Enc α}{z:α}{T U:TypeId}{l:List Slot}{i:Nat}(hx:cK σ.g x=some (.ptr i 0))(he:aW σ.d i=some (.box T l pb))(hl:Spl l e z)
  (hA:∀w,(isAgg U).run F.P w= .ok e.agg w) (hS:∀w,(sizeOf U).run F.P w= .ok e.n w):JO F ⟨d,.load U x,ty,p,af,gd⟩ σ (.v e z) []:=by
 intro ρ S a w K;obtain⟨b,h,D,A,B,C⟩:=yS K (by simp[Op.operands]) hx he;have u:=(hl ρ S w h).1 C;refine OpWp.value (w':=w) (v:=e.pk h) ?_ (Res.same (by simp only[Slot.ok];exact⟨h,u,rfl⟩));have:=Es (P:=F.P) (MemAt.of_heap B) u hA hS;simp[execOp,A,Instr.loadAt,Instr.sureAddr,this]
theorem gO{T U:TypeId}{l:List Slot}{i n:Nat}(hx:cK σ.g x=some (.ptr i 0))(he:aW σ.d i=some (.box T l pb))(hn:(l.map Slot.sz).sum=n)
  (hA:∀w,(isAgg U).run F.P w= .ok true w) (hS:∀w,(sizeOf U).run F.P w= .ok n w):JO F ⟨d,.load U x,ty,p,af,gd⟩ σ (.agg l) []:=by
 intro ρ S a w K;obtain⟨b,h,G,B,z,u⟩:=yS K (by simp[Op.operands]) hx he;have A:h.length=n:=by
  rw[<-hn];clear hn hS hx he z
  induction l generalizing h with
  |nil=>simp only[aZ] at u;simp[u]
  |cons t l E=>
   simp only[aZ] at u;obtain⟨c,d,rfl,C,D⟩:=u;rw[sM,mT C,E d D];simp
 refine OpWp.value (w':=w) (v:= .agg h.toArray) ?_ (Res.same (by simp only[Slot.ok];exact⟨h,rfl,u⟩));have:(loadVar U ⟨b,0,none⟩).run F.P w= .ok (.agg h.toArray) w:=by
  unfold loadVar;simp only[Sem.run_bind,hA,Result.andThen_ok,aBb,hS];rw[<-A,run_loadCells_list w _ h (MemAt.of_heap z).cell];simp
 simp[execOp,B,Instr.loadAt,Instr.sureAddr,this]
theorem bQ{α:Type}{e:Enc α}{z:α}{U:TypeId}(hx:cK σ.g x=some (.pst e z))(hA:∀w,(isAgg U).run F.P w= .ok e.agg w)(hS:∀w,(sizeOf U).run F.P w= .ok e.n w):
  JO F ⟨d,.load U x,ty,p,af,gd⟩ σ (.v e z) []:=by
 intro ρ S a w K;have h:=K.slot x (by simp[Op.operands]) _ hx;simp only[Slot.ok] at h;obtain⟨b,D,u,B,_,_,C,A⟩:=h;refine OpWp.value (w':=w) (v:=e.pk u) ?_ (Res.same (by simp only[Slot.ok];exact⟨u,A,rfl⟩));have:=Es (P:=F.P) C A hA hS;simp[execOp,B,Instr.loadAt,Instr.sureAddr,this]
theorem Cb{P:Program}{w:World}{U:TypeId}{fs:Array Field}{n b off m:Nat}{fl:Field}(hU:∀w,(underlying U).run P w= .ok (.struct fs) w)(hf:fs[n]? =some fl)(hm:∀w,(sizeOf fl.type).run P w= .ok m w)(hne:Nat.beq m 0=false):
  (Instr.fieldAt U (.pointer (some ⟨b,off,none⟩)) n).run P w= .ok (.pointer (some ⟨b,off+fl.offset,none⟩)) w:=by
 have u:m≠0:=fun e=>by subst e;simp at hne
 have:Addr.add ⟨b,off,none⟩ fl.offset=⟨b,off+fl.offset,none⟩:=by
  unfold Addr.add;split
  ·rename_i h;rw[h];rfl
  ·rfl
 simp[Instr.fieldAt,hU,hf,Instr.sureAddr,fieldPlace,hm,u,this]
theorem aA(o:Nat){U:TypeId}{fs:Array Field}{n i off m:Nat}{fl:Field}(hx:cK σ.g x=some (.ptr i off))(hU:∀w,(underlying U).run F.P w= .ok (.struct fs) w)(hf:fs[n]? =some fl)(hm:∀w,(sizeOf fl.type).run F.P w= .ok m w)(hne:Nat.beq m 0=false)(ho:Nat.beq (off+fl.offset) o=true):
  JO F ⟨d,.fieldAddr U x n,ty,p,af,gd⟩ σ (.ptr i o) []:=by
 have ho:=aAb ho;subst ho;intro ρ S a w K;have h:=K.slot x (by simp[Op.operands]) _ hx;simp only[Slot.ok] at h;obtain⟨⟨b,u⟩,z⟩:=h;rw[u] at z;refine OpWp.value (w':=w) (v:= .pointer (some ⟨b,off+fl.offset,none⟩)) ?_ (Res.same (by simp only[Slot.ok];exact⟨⟨b,u⟩,by rw[u];rfl⟩));have:=Cb (P:=F.P) (w:=w) (b:=b) (off:=off) hU hf hm hne;simp only[execOp,z,Bz];simp[this]
def Prj{α β:Type}(e:Enc α)(z:α)(off:Nat)(e':Enc β)(z':β):Prop:=∀S w cs,e.ok z S w cs->∃a c d,cs=a++(c++d)/\a.length=off/\e'.ok z' S w c
theorem Prj.here{α:Type}{e:Enc α}{z:α}:Prj e z 0 e z:=fun _ _ u h=>⟨[],u,[],by simp,rfl,h⟩
theorem Prj.fst{α β γ:Type}{a:Enc α}{b:Enc β}{e':Enc γ}{z:α×β}{z':γ}{off:Nat}(h:Prj a z.1 off e' z'):Prj (Enc.pr a b) z off e' z':=by
 rintro S w F ⟨c,d,rfl,E,G⟩;obtain⟨u,A,B,rfl,C,D⟩:=h S w c E;exact⟨u,A,B++d,by simp,C,D⟩
theorem Prj.snd{α β γ:Type}{a:Enc α}{b:Enc β}{e':Enc γ}{z:α×β}{z':γ}{off:Nat}(h:Prj b z.2 off e' z'):Prj (Enc.pr a b) z (a.n+off) e' z':=by
 rintro S w G ⟨c,d,rfl,E,F⟩;obtain⟨u,A,B,rfl,C,D⟩:=h S w d F;exact⟨c++u,A,B,by simp,by rw[sM,a.len E,C],D⟩
theorem eI{α β:Type}{e:Enc α}{z:α}{e':Enc β}{z':β}{U:TypeId}{fs:Array Field}{n m off:Nat}{fl:Field}(hx:cK σ.g x=some (.pst e z))(hU:∀w,(underlying U).run F.P w= .ok (.struct fs) w)(hf:fs[n]? =some fl)
  (hm:∀w,(sizeOf fl.type).run F.P w= .ok m w) (hne:Nat.beq m 0=false) (hp:Prj e z off e' z') (hoff:off=fl.offset):JO F ⟨d,.fieldAddr U x n,ty,p,af,gd⟩ σ (.pst e' z') []:=by
 intro ρ S a w K;have h:=K.slot x (by simp[Op.operands]) _ hx;simp only[Slot.ok] at h;obtain⟨b,o,u,A,B,C,D,E⟩:=h;obtain⟨L,G,M,rfl,H,I⟩:=hp S w u E
 refine OpWp.value (w':=w) (v:= .pointer (some ⟨b,o+fl.offset,none⟩)) ?_ (Res.same (by
  simp only[Slot.ok];exact⟨b,_,G,rfl,B,C,by rw[<-hoff,<-H];exact D.sub,I⟩))
 have:=Cb (P:=F.P) (w:=w) (b:=b) (off:=o) hU hf hm hne;simp only[execOp,A];simp[this]
def idx{α:Type}(xs:List α)(n:Int):Option α:=if 0<=n then xs[n.toNat]? else none
theorem cX{α:Type}{xs:List α}{n:Int}{y:α}(h:idx xs n=some y):0<=n/\n.toNat<xs.length/\xs[n.toNat]? =some y:=by
 unfold idx at h;split at h
 ·rename_i z;refine⟨z,?_,h⟩;rcases aBc n.toNat xs.length with u | u
  ·exact u
  ·simp[aAv u] at h
 ·cases h
theorem Cc{P:Program}{w:World}{U E:TypeId}{m b off len cap:Nat}{k:IntKind}{n:Int}(hU:∀w,(underlying U).run P w= .ok (.slice E) w)(hE:∀w,(sizeOf E).run P w= .ok m w)(h0:0<=n)(h1:n<len):
  (Instr.indexAt U (.slice (some ⟨b,off,none⟩) len cap) (.int k n)).run P w= .ok (.pointer (some ⟨b,off+n.toNat*m,none⟩)) w:=by
 have:Addr.add ⟨b,off,none⟩ (n.toNat*m)=⟨b,off+n.toNat*m,none⟩:=by
  unfold Addr.add;split
  ·rename_i h;rw[h];rfl
  ·rfl
 simp[Instr.indexAt,asIntOf,hU,h0,h1,hE,this]
theorem pK{α:Type}{e:Enc α}{xs:List α}{z:α}{U E:TypeId}{k:IntKind}{n:Int}(hz:Sw.idx xs n=some z)(hx:cK σ.g x=some (.v (Enc.sl e) xs))(hy:cK σ.g y=some (.v (Enc.int k) n))
  (hU:∀w,(underlying U).run F.P w= .ok (.slice E) w) (hE:∀w,(sizeOf E).run F.P w= .ok e.n w):JO F ⟨d,.indexAddr U x y,ty,p,af,gd⟩ σ (.pst e z) []:=by
 intro ρ S a w K;have h:=K.slot x (by simp[Op.operands]) _ hx;have A:=(fB K (x:=y) (by simp[Op.operands]) hy).1;simp only[Slot.ok] at h;obtain⟨Q,cap,B,_,u⟩:=rJ.1 h;obtain⟨C,D,G⟩:=cX hz;rcases u with u |⟨b,off,V,rfl,L,M,N,O⟩
 ·subst u;simp at D
 obtain⟨R,c,T,rfl,H,I,_⟩:=pW O G;refine OpWp.value (w':=w) (v:= .pointer (some ⟨b,off+n.toNat*e.n,none⟩)) ?_ (Res.same (by simp only[Slot.ok];exact⟨b,_,c,rfl,L,M,by rw[<-H];exact N.sub,I⟩));have:=Cc (P:=F.P) (w:=w) (b:=b) (off:=off) (cap:=cap) (k:=k) hU hE C (by omega:n<(xs.length:Int));simp only[execOp,B,A];simp[this]
theorem Cd{n:Nat}(h:n<=9223372036854775807):Db .i64 (n:Int):=by unfold Db;simp only[IntKind.min,IntKind.max,IntKind.signed,IntKind.bits];simp;omega
theorem Fw{P:Program}{w:World}{U E:TypeId}{a:Option Addr}{n cap:Nat}{tt:TypeId}(hU:∀w,(underlying U).run P w= .ok (.slice E) w):(Builtin.len_ #[U] tt #[.slice a n cap]).run P w= .ok (.int .i64 n) w:=by
 simp[Builtin.len_,hU,goInt]
theorem uA{α:Type}{e:Enc α}{xs:List α}{U E:TypeId}(hx:cK σ.g x=some (.v (Enc.sl e) xs))(hU:∀w,(underlying U).run F.P w= .ok (.slice E) w):
  JO F ⟨d,.call ⟨.builtin .len,#[x],#[U]⟩,ty,p,af,gd⟩ σ (.v (Enc.int .i64) xs.length) []:=by
 intro ρ S a w K;have h:=K.slot x (by simp[Op.operands,Call.operands]) _ hx;simp only[Slot.ok] at h;obtain⟨A,B,u,z,_⟩:=rJ.1 h;refine OpWp.value (w':=w) (v:= .int .i64 xs.length) ?_ (Res.same (sE (Cd (by have:=z.2;omega)) ρ S w));simp[execOp,resolve,invoke,builtin,u,Fw hU]
theorem xO{xs:Array Operand}{ρ:Nat->LV}{S a w}(K:Know σ xs ρ S a w)(hm:x∈xs){i:Nat}{en:Ent}(hx:cK σ.g x=some (.ref i))(he:aW σ.d i=some en):
  a.eval x=(ρ i).v/\en.ok ρ S w (ρ i)/\∀b,pV (ρ i) b->S b/\b<w.heap.size:=by
 have h:=K.slot x hm _ hx;simp only[Slot.ok] at h;exact⟨h.2,K.ent x hm _ hx i (by simp[Slot.lab]) _ he⟩
theorem Qf{α:Type}{e:Enc α}{xs:List α}{T U E:TypeId}{i:Nat}(hx:cK σ.g x=some (.ref i))(he:aW σ.d i=some (.arr T e xs))(hU:∀w,(underlying U).run F.P w= .ok (.slice E) w):
  JO F ⟨d,.call ⟨.builtin .len,#[x],#[U]⟩,ty,p,af,gd⟩ σ (.v (Enc.int .i64) xs.length) []:=by
 intro ρ S a w K;obtain⟨u,h,_⟩:=xO K (x:=x) (by simp[Op.operands,Call.operands]) hx he;rcases h with⟨rfl,h⟩|⟨b,z,A,B,C,h,_,_,_,_,D⟩
 ·refine OpWp.value (w':=w) (v:= .int .i64 0) ?_ (Res.same (sE (Cd (n:=0) (by simp)) ρ S w));simp[execOp,resolve,invoke,builtin,u,h,Fw hU]
 ·refine OpWp.value (w':=w) (v:= .int .i64 xs.length) ?_ (Res.same (sE (Cd (by omega)) ρ S w));simp[execOp,resolve,invoke,builtin,u,h,Fw hU]
end
end Go.Sw
namespace Go.Sw
open Go Go.RowKit
mutual
def Slot.map(r:Nat->Nat):Slot->Slot
 | .v e x=> .v e x
 | .ref i=> .ref (r i)
 | .ptr i off=> .ptr (r i) off
 | .pel i off k n=> .pel (r i) off k n
 | .el i k n off=> .el (r i) k n off
 | .asl i off h n cap=> .asl (r i) off h n cap
 | .esl i off n cap=> .esl (r i) off n cap
 | .sub i off n=> .sub (r i) off n
 | .pst e x=> .pst e x
 | .fnc g cap=> .fnc g (eS r cap)
 | .top=> .top
 | .agg l=> .agg (eS r l)
 | .tup l=> .tup (eS r l)
def eS(r:Nat->Nat):List Slot->List Slot
 | []=>[]
 |s::l=>s.map r::eS r l
end
def Ent.map(r:Nat->Nat):Ent->Ent
 | .box T l h=> .box T (eS r l) h
 | .arr T e xs=> .arr T e xs
 | .mp e f m=> .mp e f m
 | .dp D x u=> .dp D x (u.map r)
section
variable {ρ:Nat->LV}{S:Nat->Prop}{w:World}{r:Nat->Nat}
mutual
theorem Yk:∀(s:Slot) (cs:List Value),(s.map r).okc ρ S w cs↔s.okc (fun i=>ρ (r i)) S w cs
 | .v e x,cs=>by simp only[Slot.map,Slot.okc]
 | .ref i,cs=>by simp only[Slot.map,Slot.okc]
 | .ptr i off,cs=>by simp only[Slot.map,Slot.okc]
 | .pel i off k n,cs=>by simp only[Slot.map,Slot.okc]
 | .el i k n off,cs=>by simp only[Slot.map,Slot.okc]
 | .asl i off h n cap,cs=>by simp only[Slot.map,Slot.okc]
 | .esl i off n cap,cs=>by simp only[Slot.map,Slot.okc]
 | .sub i off n,cs=>by simp only[Slot.map,Slot.okc]
 | .pst e x,cs=>by simp only[Slot.map,Slot.okc]
 | .fnc g cap,cs=>by simp only[Slot.map,Slot.okc,Jv cap]
 | .top,cs=>by simp only[Slot.map,Slot.okc]
 | .agg l,cs=>by simp only[Slot.map,Slot.okc]
 | .tup l,cs=>by simp only[Slot.map,Slot.okc]
theorem Jv:∀(l:List Slot) (vs:List Value),aV ρ S w (eS r l) vs↔aV (fun i=>ρ (r i)) S w l vs
 | [],vs=>by simp only[eS,aV]
 |s::l,vs=>by simp only[eS,aV,Ks s,Jv l]
theorem Qg:∀(l:List Slot) (vs:List Value),aZ ρ S w (eS r l) vs↔aZ (fun i=>ρ (r i)) S w l vs
 | [],vs=>by simp only[eS,aZ]
 |s::l,vs=>by simp only[eS,aZ,Yk s,Qg l]
theorem Ks:∀(s:Slot) (u:Value),(s.map r).ok ρ S w u↔s.ok (fun i=>ρ (r i)) S w u
 | .v e x,h=>by simp only[Slot.map,Slot.ok]
 | .ref i,h=>by simp only[Slot.map,Slot.ok]
 | .ptr i off,h=>by simp only[Slot.map,Slot.ok]
 | .pel i off k n,h=>by simp only[Slot.map,Slot.ok]
 | .el i k n off,h=>by simp only[Slot.map,Slot.ok]
 | .asl i off z n cap,h=>by simp only[Slot.map,Slot.ok]
 | .esl i off n cap,h=>by simp only[Slot.map,Slot.ok]
 | .sub i off n,h=>by simp only[Slot.map,Slot.ok]
 | .pst e x,h=>by simp only[Slot.map,Slot.ok]
 | .fnc g cap,h=>by simp only[Slot.map,Slot.ok,Jv cap]
 | .top,h=>by simp only[Slot.map,Slot.ok]
 | .agg l,h=>by simp only[Slot.map,Slot.ok,Qg l]
 | .tup l,h=>by simp only[Slot.map,Slot.ok,Jv l]
end
theorem Fx(en:Ent)(u:LV):(en.map r).ok ρ S w u↔en.ok (fun i=>ρ (r i)) S w u:=by
 cases en with
 |box T l h=>simp only[Ent.map,Ent.ok,Qg]
 |arr T e xs=>simp only[Ent.map,Ent.ok]
 |mp e f m=>simp only[Ent.map,Ent.ok]
 |dp D x z=>simp only[Ent.map,Ent.ok,aEv,Function.comp_def]
end
def Kt(r:Nat->Nat):List (Nat×Ent)->List (Nat×Ent)
 | []=>[]
 | (i,h)::l=>(r i,h.map r)::Kt r l
theorem wG(k:Nat):∀(l:List (Nat×Ent)) (j:Nat) (en:Ent),aW (Kt (·+k) l) j=some en->∃i en',j=i+k/\aW l i=some en'/\en=en'.map (·+k)
 | [],j,en,h=>by simp[Kt,aW] at h
 | (i,en')::l,j,en,h=>by
  simp only[Kt,aW] at h;cases hb:Nat.beq (i+k) j with
  |true=>
   have:=aAb hb;rw[hb] at h;simp at h;exact⟨i,en',this.symm,by simp[aW],h.symm⟩
  |false=>
   rw[hb] at h;obtain⟨u,A,z,B,C⟩:=wG k l j en (by simpa using h);refine⟨u,A,z,?_,C⟩;have:Nat.beq i u=false:=by
    cases hc:Nat.beq i u with
    |false=>rfl
    |true=>have:=aAb hc;subst this;subst z;simp at hb
   simp only[aW,this];exact B
theorem wL(k:Nat):∀(l:List (Nat×Ent)) (i:Nat) (en:Ent),aW l i=some en->aW (Kt (·+k) l) (i+k)=some (en.map (·+k))
 | [],i,en,h=>by simp[aW] at h
 | (u,en')::l,i,en,h=>by
  simp only[aW] at h;simp only[Kt,aW];cases hb:Nat.beq u i with
  |true=>
   have:=aAb hb;subst this;rw[hb] at h;simp at h;subst h;simp
  |false=>
   rw[hb] at h;have z:u≠i:=fun e=>by subst e;simp at hb
   have:Nat.beq (u+k) (i+k)=false:=by
    cases hc:Nat.beq (u+k) (i+k) with
    |false=>rfl
    |true=>have:=aAb hc;omega
   rw[this];exact wL k l i en (by simpa using h)
theorem Res.shift{ρ:Nat->LV}{S:Nat->Prop}{w w':World}{res:Slot}{new:List (Nat×Ent)}{v:Value}(k:Nat)(hcl:kJ res new=true)(h:Res ρ S w res new v w'):
  Res ρ S w (res.map (·+k)) (Kt (·+k) new) v w':=by
 obtain⟨ρ',U,N,O,G⟩:=h;simp only[kJ,aAr,aAh] at hcl;let ρ'':Nat->LV:=fun j=>if k<=j/\(aW new (j - k)).isSome=true then ρ' (j - k) else ρ j
 have C:∀i,(aW new i).isSome=true->ρ'' (i+k)=ρ' i:=fun i u=>by simp[ρ'',u]
 have K:∀b,Un S ρ'' (Kt (·+k) new) b↔Un S ρ' new b:=by
  intro b;constructor
  ·rintro (h |⟨j,A,B,z⟩)
   ·exact .inl h
   ·obtain⟨i,D,rfl,u,_⟩:=wG k new j A B;rw[C i (by rw[u];rfl)] at z;exact .inr ⟨i,D,u,z⟩
  ·rintro (h |⟨i,A,u,z⟩)
   ·exact .inl h
   ·exact .inr ⟨i+k,_,wL k new i A u,by rw[C i (by rw[u];rfl)];exact z⟩
 have H:Ext (Un S ρ' new) (Un S ρ'' (Kt (·+k) new)) w' w':=⟨aAi _,fun b _ z=>⟨rfl,fun h=>z ((K b).1 h)⟩⟩
 refine⟨ρ'',fun j B=>?_,N,?_,⟨fun j A B=>?_,fun j A b B z=>?_,fun j L A D b B M z I=>?_⟩⟩
 ·have:¬(k<=j/\(aW new (j - k)).isSome=true):=by
   rintro⟨R,T⟩;obtain⟨A,P⟩:=Option.isSome_iff_exists.1 T;have:=wL k new (j - k) A P;rw[Nat.sub_add_cancel R,B] at this;cases this
  simp only[ρ'',aAj this]
 ·rw[Ks];exact Slot.ok_mono res v O H (fun i u=>congrArg LV.v (C i (hcl.1 i u)))
 ·obtain⟨i,D,rfl,u,rfl⟩:=wG k new j A B;rw[Fx,C i (by rw[u];rfl)];exact Ent.ok_mono (G.own i D u) H (fun E F=>congrArg LV.v (C E (hcl.2 _ (lR u) E F))) (fun _ _=>rfl)
 ·obtain⟨i,D,rfl,u,rfl⟩:=wG k new j A B;rw[C i (by rw[u];rfl)] at z;exact G.fresh i D b u z
 ·obtain⟨i,e,rfl,u,rfl⟩:=wG k new j A B;obtain⟨E,Q,rfl,F,rfl⟩:=wG k new L D M;rw[C i (by rw[u];rfl)] at z;rw[C E (by rw[F];rfl)] at I;rw[G.inj i E e Q b u F z I]
def Frz{α β:Type}(D:DE α)(x:α)(e:Enc β)(z:β):Prop:=∀S S' w u,D.ok x S w u []->Ext S S' w w->(∀b,pV u b->¬S' b)->e.ok z S' w [u.v]/\e.pk [u.v]=u.v
def PU(en en':Ent):Prop:=en'.lab=[]/\∀ρ S w u,en.ok ρ S w u->en'.ok ρ S w u
mutual
inductive CvS (σ:AS) (r:Nat->Nat) (ls:List Nat):Slot->Slot->Prop
 |same {s:Slot}:CvS σ r ls (s.map r) s
 |frz {α:Type} {j:Nat} {T:TypeId} {e:Enc α} {xs:List α}:aW σ.d j=some (.arr T e xs)->ls.all (fun i=> !Nat.beq (r i) j)=true->CvS σ r ls (.ref j) (.v (Enc.sl e) xs)
 |agg {l l':List Slot}:CvL σ r ls l l'->CvS σ r ls (.agg l) (.agg l')
 |pack {α:Type} {l l':List Slot} {e:Enc α} {z:α}:CvL σ r ls l l'->Spl l' e z->e.agg=true->CvS σ r ls (.agg l) (.v e z)
 |frzP {α:Type} {j:Nat} {T:TypeId} {l l':List Slot} {pb:Option Nat} {e:Enc α} {z:α}:aW σ.d j=some (.box T l pb)->ls.all (fun i=> !Nat.beq (r i) j)=true->CvL σ r ls l l'->Spl l' e z->CvS σ r ls (.ptr j 0) (.pst e z)
 |fnc {g:Nat} {l l':List Slot}:CvL σ r ls l l'->CvS σ r ls (.fnc g l) (.fnc g l')
 |frzD {α β:Type} {j:Nat} {D:DE α} {x:α} {e:Enc β} {z:β}:aW σ.d j=some (.dp D x [])->ls.all (fun i=> !Nat.beq (r i) j)=true->Frz D x e z->CvS σ r ls (.ref j) (.v e z)
 |enc {α β:Type} {e:Enc α} {f:Enc β} {x:α} {y:β}:(∀S w cs,e.ok x S w cs->f.ok y S w cs)->(∀cs,e.pk cs=f.pk cs)->CvS σ r ls (.v e x) (.v f y)
inductive CvL (σ:AS) (r:Nat->Nat) (ls:List Nat):List Slot->List Slot->Prop
 |nil:CvL σ r ls [] []
 |cons {s s':Slot} {l l':List Slot}:CvS σ r ls s s'->CvL σ r ls l l'->CvL σ r ls (s::l) (s'::l')
end
inductive SubG (σ:AS) (r:Nat->Nat) (ls:List Nat):List (Nat×Slot)->Prop
 |nil:SubG σ r ls []
 |cons {t:Nat} {s s':Slot} {g:List (Nat×Slot)}:lk σ.g t=some s->CvS σ r ls s s'->SubG σ r ls g->SubG σ r ls ((t,s')::g)
inductive SubD (σ:AS) (r:Nat->Nat) (ls:List Nat):List (Nat×Ent)->Prop
 |nil:SubD σ r ls []
 |box {i:Nat} {T:TypeId} {l l':List Slot} {pb:Option Nat} {d:List (Nat×Ent)}:aW σ.d (r i)=some (.box T l pb)->CvL σ r ls l l'->SubD σ r ls d->SubD σ r ls ((i,.box T l' pb)::d)
 |boxU {i:Nat} {T:TypeId} {l l':List Slot} {pb:Option Nat} {d:List (Nat×Ent)}:aW σ.d (r i)=some (.box T l pb)->CvL σ r ls l l'->SubD σ r ls d->SubD σ r ls ((i,.box T l' none)::d)
 |arr {α:Type} {i:Nat} {T:TypeId} {e:Enc α} {xs:List α} {d:List (Nat×Ent)}:aW σ.d (r i)=some (.arr T e xs)->SubD σ r ls d->SubD σ r ls ((i,.arr T e xs)::d)
 |mp {α β:Type} {i:Nat} {e:Enc α} {f:Enc β} {m:List (α×β)} {d:List (Nat×Ent)}:aW σ.d (r i)=some (.mp e f m)->SubD σ r ls d->SubD σ r ls ((i,.mp e f m)::d)
 |dp {α:Type} {i:Nat} {D:DE α} {x:α} {l:List Nat} {d:List (Nat×Ent)}:aW σ.d (r i)=some (.dp D x (l.map r))->SubD σ r ls d->SubD σ r ls ((i,.dp D x l)::d)
 |cv {i:Nat} {en en':Ent} {d:List (Nat×Ent)}:aW σ.d (r i)=some en->PU en en'->SubD σ r ls d->SubD σ r ls ((i,en')::d)
def Qh(r:Nat->Nat):List Nat->Bool
 | []=>true
 |i::l=>l.all (fun j=> !Nat.beq (r j) (r i)) && Qh r l
theorem Oe{r:Nat->Nat}:∀{l:List Nat},Qh r l=true->∀i∈l,∀j∈l,r i=r j->i=j
 | [],_,i,A,_,_,_=>by simp at A
 |x::l,h,i,A,j,E,B=>by
  simp only[Qh,aAr,aAh] at h;obtain⟨C,F⟩:=h;rcases aAo.1 A with e | D
  ·rcases aAo.1 E with u | z
   ·rw[e,u]
   ·have:=C j z;rw[<-e,B] at this;simp at this
  ·rcases aAo.1 E with u | z
   ·have:=C i D;rw[<-u,B] at this;simp at this
   ·exact Oe F i D j z B
section
variable {F:Frm}{σ:AS}{pb:Option Nat}{r:Nat->Nat}{ls:List Nat}{ρ:Nat->LV}{w:World}{d':List (Nat×Ent)}
theorem Qi{α:Type}{e:Enc α}{xs:List α}{T:TypeId}{ρ S S' w u}(h:(Ent.arr T e xs).ok ρ S w u)(hE:Ext S S' w w)(hb:∀b,pV u b->¬S' b):(Enc.sl e).ok xs S' w [u.v]:=by
 rcases h with⟨rfl,z⟩|⟨b,B,F,C,G,z,A,D,E,H,I⟩<;>rw[z]
 ·exact⟨none,0,rfl,by simp,.inl rfl⟩
 ·refine⟨_,B,rfl,⟨E,by omega⟩,.inr ⟨b,_,C,rfl,?_,hb b (.inl (by rw[z];rfl)),?_,Enc.okL_mono D hE⟩⟩
  ·exact(MemAt.of_heap A).lt
  ·have:=(MemAt.of_heap A).sub;simpa using this
mutual
theorem CvS.spec(hc:Core F σ.d ρ w)(hE:Ext (Un F.S0 ρ σ.d) (Un F.S0 (fun i=>ρ (r i)) d') w w)(hn:∀j en,aW σ.d j=some en->ls.all (fun i=> !Nat.beq (r i) j)=true->∀b,pV (ρ j) b->¬Un F.S0 (fun i=>ρ (r i)) d' b):
  ∀{s s':Slot},CvS σ r ls s s'->(∀u,s.ok ρ (Un F.S0 ρ σ.d) w u->s'.ok (fun i=>ρ (r i)) (Un F.S0 (fun i=>ρ (r i)) d') w u)/\
   (∀cs,s.okc ρ (Un F.S0 ρ σ.d) w cs->s'.okc (fun i=>ρ (r i)) (Un F.S0 (fun i=>ρ (r i)) d') w cs)
 |_,s',.same=>⟨fun u h=>Slot.ok_mono s' u ((Ks s' u).1 h) hE (fun _ _=>rfl),fun cs h=>uM s' cs ((Yk s' cs).1 h) hE (fun _ _=>rfl)⟩
 |_,_,.frz (j:=j) z A=>by
  have C:=Qi (hc.own j _ z) hE (hn j _ z A);refine⟨fun u h=>?_,fun cs h=>?_⟩
  ·simp only[Slot.ok] at h ⊢;rw[h.2];exact⟨_,C,rfl⟩
  ·simp only[Slot.okc] at h ⊢;rw[h.2];exact C
 |_,_,.agg B=>by
  refine⟨fun u h=>?_,fun cs h=>by simp[Slot.okc] at h⟩;simp only[Slot.ok] at h ⊢;obtain⟨cs,z,A⟩:=h;exact⟨cs,z,(CvL.spec hc hE hn B).1 cs A⟩
 |_,_,.pack B H O=>by
  refine⟨fun u h=>?_,fun cs h=>by simp[Slot.okc] at h⟩;simp only[Slot.ok] at h ⊢;obtain⟨cs,z,A⟩:=h;exact⟨cs,(H _ _ _ cs).1 ((CvL.spec hc hE hn B).1 cs A),by rw[z];simp[Enc.pk,O]⟩
 |_,_,.frzP (j:=j) z A B H=>by
  obtain⟨⟨b,cs,D,E,N⟩,_⟩:=hc.own j _ z;have I:=hn j _ z A b (.inl (by rw[D];rfl));have K:=(H _ _ _ cs).1 ((CvL.spec hc hE hn B).1 cs N);have L:b<w.heap.size:=(aBm.1 E).1;refine⟨fun u h=>?_,fun P h=>?_⟩
  ·simp only[Slot.ok] at h ⊢;refine⟨b,0,cs,?_,L,I,MemAt.of_heap E,K⟩;rw[h.2,D];rfl
  ·simp only[Slot.okc] at h ⊢;refine⟨b,0,cs,?_,L,I,MemAt.of_heap E,K⟩;rw[h.2,D];rfl
 |_,_,.fnc B=>by
  refine⟨fun u h=>?_,fun cs h=>?_⟩
  ·simp only[Slot.ok] at h ⊢;obtain⟨vs,z,A⟩:=h;exact⟨vs,z,(CvL.spec hc hE hn B).2 vs A⟩
  ·simp only[Slot.okc] at h ⊢;obtain⟨vs,z,A⟩:=h;exact⟨vs,z,(CvL.spec hc hE hn B).2 vs A⟩
 |_,_,.frzD (j:=j) z A hf=>by
  obtain⟨C,G⟩:=hf _ _ _ _ (hc.own j _ z) hE (hn j _ z A);refine⟨fun u h=>?_,fun cs h=>?_⟩
  ·simp only[Slot.ok] at h ⊢;rw[h.2];exact⟨_,C,G.symm⟩
  ·simp only[Slot.okc] at h ⊢;rw[h.2];exact C
 |_,_,.enc (f:=f) h G=>by
  refine⟨fun u M=>?_,fun cs hc=>?_⟩
  ·simp only[Slot.ok] at M ⊢;obtain⟨cs,z,A⟩:=M;exact gB ⟨cs,h _ _ _ z,by rw[A,G]⟩ hE
  ·simp only[Slot.okc] at hc ⊢;exact f.mono (h _ _ _ hc) hE
theorem CvL.spec(hc:Core F σ.d ρ w)(hE:Ext (Un F.S0 ρ σ.d) (Un F.S0 (fun i=>ρ (r i)) d') w w)(hn:∀j en,aW σ.d j=some en->ls.all (fun i=> !Nat.beq (r i) j)=true->∀b,pV (ρ j) b->¬Un F.S0 (fun i=>ρ (r i)) d' b):
  ∀{l l':List Slot},CvL σ r ls l l'->(∀cs,aZ ρ (Un F.S0 ρ σ.d) w l cs->aZ (fun i=>ρ (r i)) (Un F.S0 (fun i=>ρ (r i)) d') w l' cs)/\(∀vs,aV ρ (Un F.S0 ρ σ.d) w l vs->aV (fun i=>ρ (r i)) (Un F.S0 (fun i=>ρ (r i)) d') w l' vs)
 |_,_,.nil=>⟨fun cs h=>h,fun vs h=>h⟩
 |_,_,.cons D E=>⟨fun cs h=>by
  simp only[aZ] at h ⊢;obtain⟨c,d,z,A,B⟩:=h;exact⟨c,d,z,(CvS.spec hc hE hn D).2 c A,(CvL.spec hc hE hn E).1 d B⟩,fun vs h=>by
  simp only[aV] at h ⊢;obtain⟨u,C,z,A,B⟩:=h
  exact⟨u,C,z,(CvS.spec hc hE hn D).1 u A,(CvL.spec hc hE hn E).2 C B⟩⟩
end
theorem SubG.spec{g:List (Nat×Slot)}(h:SubG σ r ls g):∀t s',lk g t=some s'->∃s,lk σ.g t=some s/\CvS σ r ls s s':=by
 induction h with
 |nil=>intro t s h;simp[lk] at h
 |cons z A _ B=>
  rename_i u C D E _;intro t s h;simp only[lk] at h;cases hb:Nat.beq u t with
  |true=>have:=aAb hb;subst this;rw[hb] at h;simp at h;subst h;exact⟨_,z,A⟩
  |false=>rw[hb] at h;exact B t s h
theorem SubD.spec{d:List (Nat×Ent)}(h:SubD σ r ls d):∀i en',aW d i=some en'->(∃T l l' pb pb',aW σ.d (r i)=some (.box T l pb)/\en'= .box T l' pb'/\(∀c,pb'=some c->pb=some c)/\CvL σ r ls l l')\/∃en,aW σ.d (r i)=some en/\∀ρ S S' w u,en.ok ρ S w u->Ext S S' w w->en'.ok (fun i=>ρ (r i)) S' w u:=by
 induction h with
 |nil=>intro t s h;simp[aW] at h
 |box A G _ B=>
  rename_i z T l l' pb F _;intro t s h;simp only[aW] at h;cases hb:Nat.beq z t with
  |true=>have:=aAb hb;subst this;rw[hb] at h;simp at h;subst h;exact .inl ⟨T,l,l',pb,pb,A,rfl,fun _ h=>h,G⟩
  |false=>rw[hb] at h;exact B t s h
 |boxU A G _ B=>
  rename_i z T l l' pb F _;intro t s h;simp only[aW] at h;cases hb:Nat.beq z t with
  |true=>have:=aAb hb;subst this;rw[hb] at h;simp at h;subst h;exact .inl ⟨T,l,l',pb,none,A,rfl,(fun _ h=>(by cases h)),G⟩
  |false=>rw[hb] at h;exact B t s h
 |arr A _ B=>
  rename_i α z T e xs F _;intro t s h;simp only[aW] at h;cases hb:Nat.beq z t with
  |true=>
   have:=aAb hb;subst this;rw[hb] at h;simp at h;subst h;exact .inr ⟨_,A,fun ρ S S' w u h C=>Ent.ok_mono h C (fun _ E=>by simp[Ent.lab] at E) (fun _ _=>rfl)⟩
  |false=>rw[hb] at h;exact B t s h
 |mp A _ B=>
  rename_i α β z e f m F _;intro t s h;simp only[aW] at h;cases hb:Nat.beq z t with
  |true=>
   have:=aAb hb;subst this;rw[hb] at h;simp at h;subst h;exact .inr ⟨_,A,fun ρ S S' w u h C=>Ent.ok_mono h C (fun _ E=>by simp[Ent.lab] at E) (fun _ _=>rfl)⟩
  |false=>rw[hb] at h;exact B t s h
 |dp A _ B=>
  rename_i α z D x l F _;intro t s h;simp only[aW] at h;cases hb:Nat.beq z t with
  |true=>
   have:=aAb hb;subst this;rw[hb] at h;simp at h;subst h;refine .inr ⟨_,A,fun ρ S S' w u h C=>?_⟩;have:=D.mono h C (fun _ _=>rfl);simp only[Ent.ok,aEv,Function.comp_def] at this ⊢;exact this
  |false=>rw[hb] at h;exact B t s h
 |cv A H _ B=>
  rename_i z en en' F _;intro t s h;simp only[aW] at h;cases hb:Nat.beq z t with
  |true=>
   have:=aAb hb;subst this;rw[hb] at h;simp at h;subst h;exact .inr ⟨_,A,fun ρ S S' w u h C=>Ent.ok_mono (H.2 _ _ _ _ h) C (fun _ E=>by rw[H.1] at E;simp at E) (fun _ _=>rfl)⟩
  |false=>rw[hb] at h;exact B t s h
theorem Sub.mk{σ':AS}(r:Nat->Nat)(hg:SubG σ r (σ'.d.map (·.1)) σ'.g)(hd:SubD σ r (σ'.d.map (·.1)) σ'.d)(hi:Qh r (σ'.d.map (·.1))=true):Sub F σ σ':=by
 rintro a w ⟨⟨ρ,z,hs⟩,hz,ab⟩;have L:=hd.spec;have E:∀i u,aW σ'.d i=some u->∃en0,aW σ.d (r i)=some en0:=fun i u h=>by
  rcases L i u h with⟨T,l,l',pb,_,A,_⟩|⟨_,A,_⟩
  ·exact⟨_,A⟩
  ·exact⟨_,A⟩
 have H:∀i u,aW σ'.d i=some u->i∈σ'.d.map (·.1):=fun i u h=>aBn.2 ⟨_,lR h,rfl⟩;have Q:∀b,Un F.S0 (fun i=>ρ (r i)) σ'.d b->Un F.S0 ρ σ.d b:=by
  rintro b (h |⟨i,u,A,D⟩)
  ·exact .inl h
  ·obtain⟨en0,C⟩:=E i u A;exact .inr ⟨r i,en0,C,D⟩
 have I:Ext (Un F.S0 ρ σ.d) (Un F.S0 (fun i=>ρ (r i)) σ'.d) w w:=⟨aAi _,fun b _ B=>⟨rfl,fun h=>B (Q b h)⟩⟩
 have M:∀j u,aW σ.d j=some u->(σ'.d.map (·.1)).all (fun i=> !Nat.beq (r i) j)=true->∀b,pV (ρ j) b->¬Un F.S0 (fun i=>ρ (r i)) σ'.d b:=by
  intro j u K R b B S;rcases S with h |⟨i,G,A,D⟩
  ·have A:=(z.fresh j u b K B).1;exact absurd h (z.apart j u b K B)
  ·obtain⟨en0,C⟩:=E i G A;have:=z.inj j (r i) u en0 b K C B D;have N:=aAh.1 R i (H i G A);rw[this] at N;simp at N
 refine⟨⟨fun i=>ρ (r i),⟨z.low,z.size,z.frame,z.os,z.tape,z.output,?_,?_,?_,?_⟩,?_⟩,hz,ab⟩
 ·intro i u h;rcases L i u h with⟨T,l,l',pb,ad,A,rfl,h0,D⟩|⟨en0,A,D⟩
  ·obtain⟨⟨b,P,k1,k2,k3⟩,k4⟩:=z.own _ _ A;exact⟨⟨b,P,k1,k2,(CvL.spec z I M D).1 P k3⟩,fun c aa=>k4 c (h0 c aa)⟩
  ·exact D _ _ _ _ _ (z.own _ _ A) I
 ·intro i u b h B;obtain⟨en0,C⟩:=E i u h;exact z.fresh (r i) en0 b C B
 ·intro i j u G b h O B U;obtain⟨en0,C⟩:=E i u h;obtain⟨ac,h4⟩:=E j G O;exact Oe hi i (H i u h) j (H j G O) (z.inj _ _ _ _ b C h4 B U)
 ·intro i u b h B;obtain⟨en0,C⟩:=E i u h;exact z.apart (r i) en0 b C B
 ·intro t V X;obtain⟨s,A,D⟩:=hg.spec t V X;exact(CvS.spec z I M D).1 _ (hs t s A)
end
section
variable {F:Frm}{σ:AS}{pb:Option Nat}{d:Option Tmp}{ty:TypeId}{p:String}{af:Array Edge}{gd:Option (Nat×Bool)}
def Arg(σ:AS)(lend:Bool)(x:Operand)(s:Slot):Prop:=∀ρ S a w,Know σ #[x] ρ S a w->s.ok ρ (if lend then fun _=>False else S) w (a.eval x)
theorem yT(S:Nat->Prop)(w:World)(b:Bool):Ext S (if b then fun _=>False else S) w w:=by
 cases b
 ·exact Ext.refl _ _
 ·exact⟨aAi _,fun _ _ _=>⟨rfl,fun h=>h⟩⟩
theorem Arg.dir{lend:Bool}{x:Operand}{s:Slot}(h:cK σ.g x=some s):Arg σ lend x s:=fun ρ S a w K=>
 Slot.ok_mono s _ (K.slot x (by simp) s h) (yT S w lend) (fun _ _=>rfl)
theorem Arg.nilS{lend:Bool}{α:Type}(e:Enc α):Arg σ lend (.const (.slice none 0 0)) (.v (Enc.sl e) []):=fun ρ _ _ w _=>Sj e ρ _ w
theorem Arg.nilE{lend:Bool}(T:TypeId):Arg σ lend (.const .nilIface) (.v (Enc.err T) none):=fun ρ _ _ w _=>Od T ρ _ w
theorem Arg.ref{α:Type}{x:Operand}{i:Nat}{T:TypeId}{e:Enc α}{xs:List α}(h:cK σ.g x=some (.ref i))(he:aW σ.d i=some (.arr T e xs)):Arg σ true x (.v (Enc.sl e) xs):=by
 intro ρ S a w K;obtain⟨u,z,_⟩:=xO K (x:=x) (by simp) h he;rw[u];simp only[Slot.ok];exact⟨_,Qi z (yT S w true) (fun _ _ h=>h),rfl⟩
inductive ArgL (σ:AS) (lend:Bool):List Slot->List Slot->Prop
 |nil:ArgL σ lend [] []
 |same {s:Slot} {l l':List Slot}:ArgL σ lend l l'->ArgL σ lend (s::l) (s::l')
 |ref {α:Type} {i:Nat} {T:TypeId} {e:Enc α} {xs:List α} {l l':List Slot}:lend=true->aW σ.d i=some (.arr T e xs)->ArgL σ lend l l'->ArgL σ lend (.ref i::l) (.v (Enc.sl e) xs::l')
theorem ArgL.spec{lend:Bool}{l l':List Slot}(h:ArgL σ lend l l'){ρ S w}(hent:∀i∈dF l,∀en,aW σ.d i=some en->en.ok ρ S w (ρ i)):
  ∀cs,aZ ρ S w l cs->aZ ρ (if lend then fun _=>False else S) w l' cs:=by
 induction h with
 |nil=>intro cs h;exact h
 |same _ C=>
  rename_i s l l' _;intro cs h;simp only[aZ] at h ⊢;obtain⟨c,d,z,A,B⟩:=h;exact⟨c,d,z,uM s c A (yT S w lend) (fun _ _=>rfl),C (fun i u=>hent i (by simp[dF,u])) d B⟩
 |ref D E _ C=>
  rename_i α i T e xs l l' _;intro cs h;simp only[aZ,Slot.okc] at h ⊢;obtain⟨c,d,z,A,B⟩:=h;refine⟨c,d,z,?_,C (fun i u=>hent i (by simp[dF,u])) d B⟩;rw[A.2];subst D;exact Qi (hent i (by simp[dF,Slot.lab]) _ E) (yT S w true) (fun _ _ h=>h)
theorem Arg.agg{lend:Bool}{α:Type}{x:Operand}{l l':List Slot}{e:Enc α}{z:α}(h:cK σ.g x=some (.agg l))(hl:ArgL σ lend l l')(hs:Spl l' e z)(ha:e.agg=true):Arg σ lend x (.v e z):=by
 intro ρ S a w K;have A:=K.slot x (by simp) _ h;simp only[Slot.ok] at A ⊢;obtain⟨u,E,F⟩:=A;refine⟨u,(hs _ _ _ u).1 (hl.spec (fun i B C D=>(K.ent x (by simp) _ h i (by simpa[Slot.lab] using B) C D).1) u F),?_⟩;rw[E];simp[Enc.pk,ha]
inductive Args (σ:AS) (lend:Bool):List Operand->List Slot->Prop
 |nil:Args σ lend [] []
 |cons {x:Operand} {s:Slot} {xs:List Operand} {l:List Slot}:Arg σ lend x s->Args σ lend xs l->Args σ lend (x::xs) (s::l)
theorem Args.spec{lend:Bool}{xs:List Operand}{l:List Slot}(h:Args σ lend xs l){ρ S a w}{ys:Array Operand}(hys:∀x∈xs,x∈ys)(K:Know σ ys ρ S a w):aV ρ (if lend then fun _=>False else S) w l (xs.map a.eval):=by
 induction h with
 |nil=>rfl
 |cons z _ A=>
  rename_i x s xs l _;simp only[aAx,aV];refine⟨_,_,rfl,z ρ S a w ⟨K.low,fun y u s h=>?_,fun y u s h=>?_⟩,A fun y u=>hys y (aAz _ u)⟩
  ·have:y=x:=by simpa using u
   subst this;exact K.slot y (hys y (by simp)) s h
  ·have:y=x:=by simpa using u
   subst this;exact K.ent y (hys y (by simp)) s h
theorem sX{P:Program}{f:FuncId}{xs:List Operand}{ts:Array TypeId}{a:Act}{w:World}(hcall:∀args w,(callFunc f args).run P w= .ok (.enter f args) w):
  (execOp a.eval ⟨d,.call ⟨.value (.func f),xs.toArray,ts⟩,ty,p,af,gd⟩).run P w= .ok (.enter f (xs.map a.eval).toArray) w:=by
 simp[execOp,resolve,Act.eval,Deferred.ofValue,invoke,hcall]
theorem eU{f:FuncId}{xs:List Operand}{ts:Array TypeId}{ss:List Slot}{res:Slot}{new:List (Nat×Ent)}(k:Nat)(hc:Con F.P f ss res new)(hcall:∀args w,(callFunc f args).run F.P w= .ok (.enter f args) w)
  (ha:Args σ false xs ss) (hcl:kJ res new=true):
  JO F ⟨d,.call ⟨.value (.func f),xs.toArray,ts⟩,ty,p,af,gd⟩ σ (res.map (·+k)) (Kt (·+k) new):=by
 intro ρ S a w K;refine OpWp.enter (sX hcall) ?_;have:=ha.spec (ys:=(Op.call ⟨.value (.func f),xs.toArray,ts⟩).operands) (by intro x u;simp[Op.operands,Call.operands,u]) K;refine(hc S w _ ρ K.low this).mono ?_;rintro e z ⟨v,rfl,h⟩;exact⟨v,rfl,h.shift k hcl⟩
def FlatS(s:Slot):Prop:=∀ρ S S' w u,s.ok ρ S w u->s.ok ρ S' w u
def FlatN(new:List (Nat×Ent)):Prop:=∀i en,aW new i=some en->∀ρ S S' w u,en.ok ρ S w u->en.ok ρ S' w u
theorem CvS.of_eq{σ:AS}{r:Nat->Nat}{ls:List Nat}{s s':Slot}(h:s=s'.map r):CvS σ r ls s s':=by subst h;exact .same
theorem FlatS.v{α:Type}{e:Enc α}[FlatE e]{x:α}:FlatS (.v e x):=fun ρ S C w u h=>by
 simp only[Slot.ok] at h ⊢;obtain⟨z,A,B⟩:=h;exact⟨z,FlatE.flat A,B⟩
theorem FlatS.ref{i:Nat}:FlatS (.ref i):=fun ρ S z w u h=>by simpa only[Slot.ok] using h
inductive FlatL:List Slot->Prop
 |nil:FlatL []
 |v {α:Type} {e:Enc α} [FlatE e] {x:α} {l}:FlatL l->FlatL (.v e x::l)
 |ref {i:Nat} {l}:FlatL l->FlatL (.ref i::l)
 |agg {l l':List Slot}:FlatL l'->FlatL l->FlatL (.agg l'::l)
theorem FlatL.spec{l:List Slot}(h:FlatL l):(∀ρ S S' w vs,aV ρ S w l vs->aV ρ S' w l vs)/\(∀ρ S S' w vs,aZ ρ S w l vs->aZ ρ S' w l vs):=by
 induction h with
 |nil=>exact⟨fun _ _ _ _ _ h=>h,fun _ _ _ _ _ h=>h⟩
 |v _ D=>
  refine⟨fun ρ S S' w vs h=>?_,fun ρ S S' w vs h=>?_⟩
  ·simp only[aV] at h ⊢;obtain⟨u,A,B,z,C⟩:=h;exact⟨u,A,B,FlatS.v ρ S S' w u z,D.1 ρ S S' w _ C⟩
  ·simp only[aZ,Slot.okc] at h ⊢;obtain⟨u,A,B,z,C⟩:=h;exact⟨u,A,B,FlatE.flat z,D.2 ρ S S' w _ C⟩
 |ref _ D=>
  refine⟨fun ρ S S' w vs h=>?_,fun ρ S S' w vs h=>?_⟩
  ·simp only[aV] at h ⊢;obtain⟨u,A,B,z,C⟩:=h;exact⟨u,A,B,FlatS.ref ρ S S' w u z,D.1 ρ S S' w _ C⟩
  ·simp only[aZ,Slot.okc] at h ⊢;obtain⟨u,A,B,z,C⟩:=h;exact⟨u,A,B,z,D.2 ρ S S' w _ C⟩
 |agg _ _ G D=>
  refine⟨fun ρ S S' w vs h=>?_,fun ρ S S' w vs h=>?_⟩
  ·simp only[aV,Slot.ok] at h ⊢;obtain⟨u,A,B,⟨E,z,F⟩,C⟩:=h;exact⟨u,A,B,⟨E,z,G.2 ρ S S' w _ F⟩,D.1 ρ S S' w _ C⟩
  ·simp only[aZ,Slot.okc] at h ⊢;obtain⟨u,A,B,z,C⟩:=h;exact z.elim
theorem FlatS.agg{l:List Slot}(h:FlatL l):FlatS (.agg l):=fun ρ S z w u k=>by
 simp only[Slot.ok] at k ⊢;obtain⟨A,B,C⟩:=k;exact⟨A,B,h.spec.2 ρ S z w _ C⟩
theorem FlatS.tup{l:List Slot}(h:FlatL l):FlatS (.tup l):=fun ρ S z w u k=>by
 simp only[Slot.ok] at k ⊢;obtain⟨A,B,C⟩:=k;exact⟨A,B,h.spec.1 ρ S z w _ C⟩
theorem FlatN.nil:FlatN []:=fun i u h=>by simp[aW] at h
theorem FlatN.arr{α:Type}{i:Nat}{T:TypeId}{e:Enc α}[FlatE e]{xs:List α}{r:List (Nat×Ent)}(h:FlatN r):FlatN ((i,.arr T e xs)::r):=by
 intro j A z;simp only[aW] at z;cases hb:Nat.beq i j with
 |true=>
  rw[hb] at z;simp at z;subst z;intro ρ S S' w u h;rcases h with h |⟨b,B,C,D,E,F,G,H,I⟩
  ·exact .inl h
  ·exact .inr ⟨b,B,C,D,E,F,G,FlatE.okL H,I⟩
 |false=>rw[hb] at z;exact h j A z
theorem pZ{f:FuncId}{xs:List Operand}{ts:Array TypeId}{ss:List Slot}{res:Slot}{new:List (Nat×Ent)}(k:Nat)(hc:Con F.P f ss res new)(hcall:∀args w,(callFunc f args).run F.P w= .ok (.enter f args) w)
  (ha:Args σ true xs ss) (hcl:kJ res new=true) (hf:FlatS res) (hn:FlatN new):
  JO F ⟨d,.call ⟨.value (.func f),xs.toArray,ts⟩,ty,p,af,gd⟩ σ (res.map (·+k)) (Kt (·+k) new):=by
 intro ρ S a w K;refine OpWp.enter (sX hcall) ?_;have:=ha.spec (ys:=(Op.call ⟨.value (.func f),xs.toArray,ts⟩).operands) (by intro x B;simp[Op.operands,Call.operands,B]) K;refine(hc (fun _=>False) w _ ρ (fun _ h=>h.elim) this).mono ?_;rintro e G ⟨v,rfl,h⟩;refine⟨v,rfl,Res.shift k hcl ?_⟩;obtain⟨ρ',C,D,E,u⟩:=h;exact⟨ρ',C,D,hf _ _ _ _ _ E,⟨fun i z A=>hn i z A _ _ _ _ _ (u.own i z A),u.fresh,u.inj⟩⟩
end
end Go.Sw
namespace Go.Sw
open Go Go.RowKit
def hX(d:Option Tmp)(s:Slot)(g:List (Nat×Slot)):List (Nat×Slot):=match d with | some t=>(t,s)::g | none=>g
def rd:Operand->List Nat
 | .tmp t=>[t]
 |_=>[]
def Of(ops:Array Oper)(o:Oper):List Nat:=
 o.op.operands.toList.flatMap rd++(match o.guard with | some (g,_)=>((ops[g]?).bind (·.dst)).toList | none=>[])
def Ku(o:Oper):List Nat:=o.after.toList.filterMap fun e=>if Region.binds .any e then some e.on else none
def Ce(ops:Array Oper):Bool:=(List.range ops.size).all fun i=>match ops[i]? with | none=>false | some o=>(Ku o).all fun j=>decide (j<i)
section
variable {F:Frm}{ops:Array Oper}
def EE(ops:Array Oper)(L:Nat->Bool):Prop:=∀i o,L i=true->ops[i]? =some o->∀j∈Ku o,L j=true
theorem Un.congr{S:Nat->Prop}{ρ:Nat->LV}{d d':List (Nat×Ent)}(h:∀l en,aW d l=some en↔aW d' l=some en):Un S ρ d=Un S ρ d':=by
 funext k;refine propext ⟨fun u=>?_,fun u=>?_⟩
 ·rcases u with u |⟨i,en,z,A⟩
  ·exact .inl u
  ·exact .inr ⟨i,en,(h i en).1 z,A⟩
 ·rcases u with u |⟨i,en,z,A⟩
  ·exact .inl u
  ·exact .inr ⟨i,en,(h i en).2 z,A⟩
theorem Core.congr{d d':List (Nat×Ent)}{ρ:Nat->LV}{w:World}(h:∀l en,aW d l=some en↔aW d' l=some en)(hc:Core F d ρ w):Core F d' ρ w:=
 ⟨hc.low,hc.size,hc.frame,hc.os,hc.tape,hc.output,fun i en u=>by rw[<-Un.congr h];exact hc.own i en ((h i en).2 u),fun i en b u=>hc.fresh i en b ((h i en).2 u),fun i j en z b u A=>hc.inj i j en z b ((h i en).2 u) ((h j z).2 A),
  fun i en b u=>hc.apart i en b ((h i en).2 u)⟩
theorem Core.below{d:List (Nat×Ent)}{ρ:Nat->LV}{w w':World}(hc:Core F d ρ w)(hb:Below w.heap.size w w'):Core F d ρ w'/\Ext (Un F.S0 ρ d) (Un F.S0 ρ d) w w':=by
 have A:Ext (Un F.S0 ρ d) (Un F.S0 ρ d) w w':=qL hb fun _ _ h=>h
 exact⟨⟨hc.low,aBq hc.size hb.size,fun k B C=>(hb.block k (aAy B hc.size)).trans (hc.frame k B C),hb.os.trans hc.os,hb.tape.trans hc.tape,hb.output.trans hc.output,
  fun i u h=>Ent.ok_mono (hc.own i u h) A (fun _ _=>rfl) (fun b z=>hb.block b (hc.fresh i u b h z).2),fun i u b h z=>⟨(hc.fresh i u b h z).1,aAy (hc.fresh i u b h z).2 hb.size⟩,hc.inj,hc.apart⟩,A⟩
theorem lK{g:List (Nat×Slot)}{t u:Nat}{s:Slot}:lk ((t,s)::g) u=if t=u then some s else lk g u:=by
 simp only[lk];cases hb:Nat.beq t u with
 |true=>have:=aAb hb;subst this;simp
 |false=>
  have:t≠u:=fun e=>by subst e;simp at hb
  simp[this]
theorem AW(m i:Nat)(L:Nat->Bool)(hi:i<m)(hL:L i=false):((List.range m).filter fun q=>q==i || L q).length=((List.range m).filter fun q=>L q).length+1:=by
 induction m with
 |zero=>omega
 |succ m z=>
  rw[List.range_succ,aB4,aB4,sM,sM];by_cases h:i=m
  ·subst h;have:((List.range i).filter fun q=>q==i || L q)=(List.range i).filter fun q=>L q:=by
    refine List.filter_congr fun q u=>?_;have:=aBw.1 u;have:(q==i)=false:=by simp;omega
    simp[this]
   rw[this];simp[hL]
  ·rw[z (by omega)];have:(m==i)=false:=by simp;omega
   simp[aD3,this];split<;>simp<;>omega
end
end Go.Sw
namespace Go.Sw
open Go Go.RowKit
theorem sY{P:Program}{T:TypeId}{ti:TypeInfo}(h:∀w,(typeInfo T).run P w= .ok ti w):P.info? T=some ti:=by
 have:=h default;unfold typeInfo at this;simp only[Sem.run_bind,run_program,Result.andThen_ok] at this;cases hi:P.info? T with
 |none=>rw[hi] at this;simp at this
 |some i=>rw[hi] at this;simp at this;rw[this]
theorem qA{P:Program}{T:TypeId}{de:TypeDesc}(h:∀w,(underlying T).run P w= .ok de w):P.underlying T=some de:=by
 have:=h default;unfold underlying at this;simp only[Sem.run_bind,run_program,Result.andThen_ok] at this;cases hi:P.underlying T with
 |none=>rw[hi] at this;simp at this
 |some i=>rw[hi] at this;simp at this;rw[this]
theorem Jw{P:Program}{T:TypeId}{ti:TypeInfo}{n:Nat}(h:∀w,(typeInfo T).run P w= .ok ti w)(hs:∀w,(sizeOf T).run P w= .ok n w):ti.size=n:=by
 have:=hs default;unfold sizeOf at this;simp only[Sem.run_bind,h,Result.andThen_ok,Sem.run_pure,Result.ok.injEq,and_true] at this;exact this
structure Upd (b:Nat) (w w':World):Prop where
 size:w'.heap.size=w.heap.size
 other:∀k,k≠b->w'.heap[k]? =w.heap[k]?
 os:w'.os=w.os
 tape:w'.tape=w.tape
 output:w'.output=w.output
theorem Upd.setRow(w:World)(b:Nat)(cs:Array Value):Upd b w (w.setRow b cs):=⟨by simp[World.setRow],fun k h=>setRow_other w b k cs h,rfl,rfl,rfl⟩
theorem bV{d:List (Nat×Ent)}{t u:Nat}{s:Ent}:aW ((t,s)::d) u=if t=u then some s else aW d u:=by
 simp only[aW];cases hb:Nat.beq t u with
 |true=>have:=aAb hb;subst this;simp
 |false=>
  have:t≠u:=fun e=>by subst e;simp at hb
  simp[this]
section
variable {F:Frm}{σ:AS}
theorem Core.upd{d:List (Nat×Ent)}{ρ:Nat->LV}{w w':World}{i b:Nat}{en en':Ent}(hc:Core F d ρ w)(hi:aW d i=some en)(hb:pV (ρ i) b)(hu:Upd b w w')
  (hen:Ext (Un F.S0 ρ d) (Un F.S0 ρ d) w w'->en'.ok ρ (Un F.S0 ρ d) w' (ρ i)):Core F ((i,en')::d) ρ w'/\Ext (Un F.S0 ρ d) (Un F.S0 ρ ((i,en')::d)) w w':=by
 have I:∀k,Un F.S0 ρ ((i,en')::d) k↔Un F.S0 ρ d k:=by
  intro k;constructor
  ·rintro (h |⟨j,e,B,C⟩)
   ·exact .inl h
   ·rw[bV] at B;split at B
    ·rename_i u;subst u;exact .inr ⟨i,en,hi,C⟩
    ·exact .inr ⟨j,e,B,C⟩
  ·rintro (h |⟨j,e,B,C⟩)
   ·exact .inl h
   ·by_cases u:i=j
    ·subst u;exact .inr ⟨i,en',by rw[bV,aAn rfl],C⟩
    ·exact .inr ⟨j,e,by rw[bV,aAj u];exact B,C⟩
 have O:Un F.S0 ρ d b:= .inr ⟨i,en,hi,hb⟩;have G:Ext (Un F.S0 ρ d) (Un F.S0 ρ d) w w':=⟨by rw[hu.size];exact aAi _,fun k z A=>⟨hu.other k (fun e=>by subst e;exact A O),A⟩⟩
 have K:Ext (Un F.S0 ρ d) (Un F.S0 ρ ((i,en')::d)) w w':=⟨G.size,fun k z A=>⟨(G.keep k z A).1,fun h=>A ((I k).1 h)⟩⟩
 have P:Ext (Un F.S0 ρ d) (Un F.S0 ρ ((i,en')::d)) w' w':=⟨aAi _,fun k z A=>⟨rfl,fun h=>A ((I k).1 h)⟩⟩
 have L:∀j e,aW ((i,en')::d) j=some e->(j=i/\e=en')\/(j≠i/\aW d j=some e):=by
  intro j e h;rw[bV] at h;split at h
  ·rename_i u;cases h;exact .inl ⟨u.symm,rfl⟩
  ·rename_i u;exact .inr ⟨fun e=>u e.symm,h⟩
 have E:∀j e,aW ((i,en')::d) j=some e->∃e',aW d j=some e':=fun j e h=>by
  rcases L j e h with⟨rfl,_⟩|⟨_,h⟩
  ·exact⟨en,hi⟩
  ·exact⟨e,h⟩
 refine⟨⟨hc.low,by rw[hu.size];exact hc.size,fun k z M=>?_,hu.os.trans hc.os,hu.tape.trans hc.tape,hu.output.trans hc.output,fun j e h=>?_,fun j e k h H=>?_,fun j N e e' k h D Q R=>?_,fun j e k h H=>?_⟩,K⟩
 ·have:k≠b:=fun e=>by
   subst e;rcases (hc.fresh i en k hi hb).1 with h | h
   ·omega
   ·exact M h
  rw[hu.other k this];exact hc.frame k z M
 ·rcases L j e h with⟨rfl,rfl⟩|⟨U,h⟩
  ·exact Ent.ok_mono (hen G) P (fun _ _=>rfl) (fun _ _=>rfl)
  ·refine Ent.ok_mono (hc.own j e h) K (fun _ _=>rfl) (fun k z=>hu.other k fun e'=>U ?_);subst e';exact hc.inj j i e en k h hi z hb
 ·obtain⟨e',D⟩:=E j e h;rw[hu.size];exact hc.fresh j e' k D H
 ·obtain⟨S,B⟩:=E j e h;obtain⟨T,C⟩:=E N e' D;exact hc.inj j N S T k B C Q R
 ·obtain⟨e',D⟩:=E j e h;exact hc.apart j e' k D H
theorem pC{o:Oper}{i:Nat}{en en':Ent}(hi:aW σ.d i=some en)(hd:o.dst=none)
  (h:∀(ρ:Nat->LV) (a:Act) (w:World),Core F σ.d ρ w->(∀t s,lk σ.g t=some s->s.ok ρ (Un F.S0 ρ σ.d) w (a.tmps.getD t undef))->∃b w',pV (ρ i) b/\Upd b w w'/\(execOp a.eval o).run F.P w= .ok .skip w'/\
   (Ext (Un F.S0 ρ σ.d) (Un F.S0 ρ σ.d) w w'->en'.ok ρ (Un F.S0 ρ σ.d) w' (ρ i))):JM F o σ ⟨σ.g,(i,en')::σ.d⟩:=by
 rintro a w ⟨⟨ρ,u,z⟩,I,K⟩;obtain⟨b,w',B,C,D,E⟩:=h ρ a w u z;refine OpWp.skip D ?_;obtain⟨G,H⟩:=u.upd hi B C E;rw[hd];exact⟨⟨ρ,G,fun t s A=>Slot.ok_mono s _ (z t s A) H (fun _ _=>rfl)⟩,I,K⟩
end
end Go.Sw
namespace Go.Sw
open Go Go.RowKit
section
variable {F:Frm}{σ:AS}{pb:Option Nat}{s:Slot}{d:Option Tmp}{ty:TypeId}{p:String}{af:Array Edge}{gd:Option (Nat×Bool)}{x y:Operand}
theorem Iu{ρ:Nat->LV}{a:Act}{w:World}(hs:∀t s,lk σ.g t=some s->s.ok ρ (Un F.S0 ρ σ.d) w (a.tmps.getD t undef))(h:cK σ.g x=some s):s.ok ρ (Un F.S0 ρ σ.d) w (a.eval x):=by
 cases x with
 |tmp t=>exact hs t s h
 |const u=>exact(Km h ρ _ w).1
 |global g=>cases h
 |func f=>cases h
theorem Fy{ρ S w}{s:Slot}{cs:List Value}(h:s.okc ρ S w cs):∀v∈cs,s≠.top->v.oneCell'=true:=by
 intro v u C;cases s<;>simp only[Slot.okc] at h
 case v e z=>exact e.cell h v u
 case ref i=>obtain⟨⟨a,l,c,A⟩|⟨a,A⟩,rfl⟩:=h<;>(simp at u;rw[u,A];rfl)
 case ptr i B=>obtain⟨⟨b,A⟩,rfl⟩:=h;simp at u;rw[u,A];rfl
 case pel i B k n=>obtain⟨⟨b,A⟩,rfl⟩:=h;simp at u;rw[u,A];rfl
 case el i k n B=>obtain⟨⟨b,o,l,c,A⟩,rfl⟩:=h;simp at u;rw[u,A];rfl
 case asl i B lo n cap=>obtain⟨⟨b,A⟩,rfl⟩:=h;simp at u;rw[u,A];rfl
 case esl i B n cap=>obtain⟨⟨b,o,l,c,A⟩,rfl⟩:=h;simp at u;rw[u,A];rfl
 case sub i B n=>obtain⟨⟨a,l,c,A⟩,D,E,F,G,rfl⟩:=h;simp at u;rw[u,A];cases a<;>rfl
 case pst e z=>obtain⟨b,B,H,rfl,A⟩:=h;simp at u;rw[u];rfl
 case fnc g cap=>obtain⟨vs,rfl,A⟩:=h;simp at u;rw[u];rfl
 case top=>exact absurd rfl C
theorem kL{P:Program}{w:World}{U T:TypeId}{b off n:Nat}{v:Value}{a c e:List Value}(hS:∀w,(sizeOf U).run P w= .ok n w)(hn:v.cells.size=n)(hone:∀u∈v.cells.toList,u.oneCell'=true)
  (hb:w.heap[b]? =some (.cells (a++(c++e)).toArray T (0,0))) (hoff:a.length=off) (hc:c.length=n):
  (storeVar U ⟨b,off,none⟩ v).run P w= .ok () (w.setRow b (a++(v.cells.toList++e)).toArray):=by
 unfold storeVar;simp only[Sem.run_bind,hS,Result.andThen_ok,hn,ne_eq,aC0,aA4];have h:v.cells.toList.length=n:=by simpa using hn
 have:=run_storeCells_at P b off T v.cells.toList 0 _ w hb (by simp;omega) hone;simp only[aDh] at this;have z:(a++(c++e)).take off=a:=by rw[<-hoff];exact aCn
 have A:(a++(c++e)).drop (off+v.cells.toList.length)=e:=by
  rw[<-aAm];have:off+v.cells.toList.length=(a++c).length:=by rw[sM,hoff,h,hc]
  rw[this];exact aB5
 rw[z,A] at this;simpa[aAm] using this
theorem kM{P:Program}{a:Act}{w w':World}{U:TypeId}{ad:Addr}(h2:a.eval x= .pointer (some ad))(hst:(storeVar U ad (a.eval y)).run P w= .ok () w'):
  (execOp a.eval ⟨d,.store U x y,ty,p,af,gd⟩).run P w= .ok .skip w':=by
 simp only[execOp,h2,Instr.storeAt,Instr.sureAddr,Sem.run_bind,Sem.run_pure,Result.andThen_ok,hst]
theorem Sl{T U:TypeId}{l:List Slot}{i off n:Nat}{s0:Slot}(hx:cK σ.g x=some (.ptr i off))(he:aW σ.d i=some (.box T l pb))(ho:mP l off=some s0)(hy:cK σ.g y=some s)(hp:s.plain=true)(hsz:Nat.beq s.sz n=true)(hsz0:Nat.beq s0.sz n=true)
  (hS:∀w,(sizeOf U).run F.P w= .ok n w):JM F ⟨none,.store U x y,ty,p,af,gd⟩ σ ⟨σ.g,(i,.box T (nD l off s) pb)::σ.d⟩:=by
 replace hsz:=aAb hsz;replace hsz0:=aAb hsz0;refine pC he rfl fun ρ a w z A=>?_;have K:=bT z A (Op.store U x y).operands;obtain⟨b,R,B,I,C,L⟩:=yS K (x:=x) (by simp[Op.operands]) hx he;have h:=pY hp (Iu A hy);obtain⟨M,c,N,rfl,rfl,O,Q⟩:=tZ ho L;have D:∀u∈(a.eval y).cells.toList,u.oneCell'=true:=fun u G=>Fy h u G (fun e=>by subst e;cases hp);have E:=kL (P:=F.P) (w:=w) (U:=U) hS (by have:=mT h;simp only[aA3] at this;omega) D C rfl (by rw[mT O];exact hsz0);refine⟨b,w.setRow b (M++((a.eval y).cells.toList++N)).toArray,.inl (by rw[B];rfl),Upd.setRow w b _,?_,fun H=>?_⟩
 ·exact kM I E
 ·refine⟨⟨b,_,B,setRow_heap w b _ _ T _ C,?_⟩,(z.own i _ he).2⟩;exact eZ _ _ (Q s _ h) H (fun _ _=>rfl)
theorem bI{α:Type}{e:Enc α}{z:α}{T U:TypeId}{l l':List Slot}{i:Nat}(hx:cK σ.g x=some (.ptr i 0))(he:aW σ.d i=some (.box T l pb))(hl:Nat.beq (l.map Slot.sz).sum e.n=true)(hy:cK σ.g y=some (.v e z))(hl':Spl l' e z)
  (hS:∀w,(sizeOf U).run F.P w= .ok e.n w):JM F ⟨none,.store U x y,ty,p,af,gd⟩ σ ⟨σ.g,(i,.box T l' pb)::σ.d⟩:=by
 replace hl:=aAb hl;refine pC he rfl fun ρ a w D E=>?_;have K:=bT D E (Op.store U x y).operands;obtain⟨b,B,G,N,C,A⟩:=yS K (x:=x) (by simp[Op.operands]) hx he;have h:=pY (s:= .v e z) rfl (Iu E hy);simp only[Slot.okc] at h;have H:B.length=e.n:=by
  rw[<-hl];clear hl hS hx he C K
  induction l generalizing B with
  |nil=>simp only[aZ] at A;simp[A]
  |cons t l R=>
   simp only[aZ] at A;obtain⟨c,d,rfl,O,Q⟩:=A;rw[sM,mT O,R d Q];simp
 have I:=kL (P:=F.P) (w:=w) (U:=U) (a:=[]) (c:=B) (e:=[]) hS (by have:=e.len h;simp only[aA3] at this;omega) (fun u L=>e.cell h u L) (by simpa using C) rfl H;refine⟨b,w.setRow b ([]++((a.eval y).cells.toList++[])).toArray,.inl (by rw[G];rfl),Upd.setRow w b _,?_,fun M=>?_⟩
 ·exact kM N I
 ·refine⟨⟨b,_,G,setRow_heap w b _ _ T _ C,?_⟩,(D.own i _ he).2⟩;refine eZ _ _ ((hl' _ _ _ _).2 ?_) M (fun _ _=>rfl);simpa using h
theorem Iv{T U:TypeId}{l l':List Slot}{i n:Nat}(hx:cK σ.g x=some (.ptr i 0))(he:aW σ.d i=some (.box T l pb))(hl:(l.map Slot.sz).sum=n)(hy:cK σ.g y=some (.agg l'))(hl':(l'.map Slot.sz).sum=n)(hnt:l'.all Slot.plain=true)
  (hS:∀w,(sizeOf U).run F.P w= .ok n w):JM F ⟨none,.store U x y,ty,p,af,gd⟩ σ ⟨σ.g,(i,.box T l' pb)::σ.d⟩:=by
 refine pC he rfl fun ρ a w M N=>?_;have K:=bT M N (Op.store U x y).operands;obtain⟨b,z,O,h2,Q,h⟩:=yS K (x:=x) (by simp[Op.operands]) hx he;have I:=Iu N hy;simp only[Slot.ok] at I;obtain⟨R,C,D⟩:=I;have L:∀(l:List Slot) (z:List Value),aZ ρ (Un F.S0 ρ σ.d) w l z->z.length=(l.map Slot.sz).sum:=by
  intro l
  induction l with
  |nil=>intro z h;simp only[aZ] at h;simp[h]
  |cons t l H=>
   intro z h;simp only[aZ] at h;obtain⟨c,d,rfl,E,G⟩:=h;rw[sM,mT E,H d G];simp
 have S:∀(l:List Slot) (z:List Value),l.all Slot.plain=true->aZ ρ (Un F.S0 ρ σ.d) w l z->∀u∈z,u.oneCell'=true:=by
  intro l
  induction l with
  |nil=>intro z _ h;simp only[aZ] at h;simp[h]
  |cons t l H=>
   intro z B h u A;simp only[aZ] at h;obtain⟨c,d,rfl,E,G⟩:=h;simp only[List.all_cons,aAr] at B;rcases aA0.1 A with A | A
   ·exact Fy E u A (fun e=>by subst e;cases B.1)
   ·exact H d B.2 G u A
 have V:=kL (P:=F.P) (w:=w) (U:=U) (a:=[]) (c:=z) (e:=[]) (v:=a.eval y) hS (by rw[C];simp[Value.cells,L l' R D,hl']) (by rw[C];simpa[Value.cells] using S l' R hnt D) (by simpa using Q) rfl (by rw[L l z h,hl]);refine⟨b,w.setRow b ([]++((a.eval y).cells.toList++[])).toArray,.inl (by rw[O];rfl),Upd.setRow w b _,?_,fun X=>?_⟩
 ·exact kM h2 V
 ·refine⟨⟨b,_,O,setRow_heap w b _ _ T _ Q,?_⟩,(M.own i _ he).2⟩;refine eZ _ _ ?_ X (fun _ _=>rfl);rw[C];simpa[Value.cells] using D
theorem NF{xs:Array Operand}{ρ:Nat->LV}{S a w}(K:Know σ xs ρ S a w)(hm:x∈xs){α:Type}{e:Enc α}{zs:List α}{T:TypeId}{i k off:Nat}(hx:cK σ.g x=some (.el i k e.n off))(he:aW σ.d i=some (.arr T e zs)):
  ∃b cap pre cs post,(ρ i).v= .slice (some ⟨b,pre.length,none⟩) zs.length cap/\a.eval x= .pointer (some ⟨b,pre.length+(k*e.n+off),none⟩)/\w.heap[b]? =some (.cells (pre++(cs++post)).toArray T (0,0))/\e.okL zs S w cs/\
   zs.length<=cap/\cap*e.n<=cs.length+post.length/\zs.length<=140737488355328:=by
 have h:=K.slot x hm _ hx;simp only[Slot.ok] at h;obtain⟨⟨b,o,l,c,z⟩,B⟩:=h;have:=(K.ent x hm _ hx i (by simp[Slot.lab]) _ he).1;rw[z] at B;rcases this with⟨_,u⟩|⟨E,cap,pre,cs,post,u,C,D⟩
 ·rw[z] at u;cases u
 ·have A:=z.symm.trans u;simp only[Value.slice.injEq,aAk,Addr.mk.injEq,and_true] at A;obtain⟨⟨rfl,rfl⟩,_,_⟩:=A;exact⟨b,cap,pre,cs,post,u,B,C,D⟩
theorem iJ{α:Type}{e:Enc α}{zs:List α}{T U E:TypeId}{k:IntKind}{n:Int}{z:α}{i:Nat}(hz:Sw.idx zs n=some z)(hx:cK σ.g x=some (.ref i))(he:aW σ.d i=some (.arr T e zs))(hy:cK σ.g y=some (.v (Enc.int k) n))
  (hU:∀w,(underlying U).run F.P w= .ok (.slice E) w) (hE:∀w,(sizeOf E).run F.P w= .ok e.n w):JO F ⟨d,.indexAddr U x y,ty,p,af,gd⟩ σ (.el i n.toNat e.n 0) []:=by
 intro ρ S a w K;obtain⟨B,C,_⟩:=xO K (x:=x) (by simp[Op.operands]) hx he;have A:=(fB K (x:=y) (by simp[Op.operands]) hy).1;obtain⟨D,G,H⟩:=cX hz;rcases C with⟨rfl,_⟩|⟨b,cap,u,I,L,h,_⟩
 ·simp at G
 refine OpWp.value (w':=w) (v:= .pointer (some ⟨b,u.length+n.toNat*e.n,none⟩)) ?_ (Res.same (by simp only[Slot.ok];exact⟨⟨b,_,_,_,h⟩,by rw[h];simp[Kl]⟩));have:=Cc (P:=F.P) (w:=w) (b:=b) (off:=u.length) (cap:=cap) (k:=k) hU hE D (by omega:n<(zs.length:Int));simp only[execOp,B,A,h];simp[this]
theorem jC{α β:Type}{e:Enc α}{zs:List α}{z:α}{e':Enc β}{z':β}{T U:TypeId}{i k off:Nat}(hz:zs[k]? =some z)(hx:cK σ.g x=some (.el i k e.n off))(he:aW σ.d i=some (.arr T e zs))(hp:Prj e z off e' z')
  (hA:∀w,(isAgg U).run F.P w= .ok e'.agg w) (hS:∀w,(sizeOf U).run F.P w= .ok e'.n w):JO F ⟨d,.load U x,ty,p,af,gd⟩ σ (.v e' z') []:=by
 intro ρ S a w K;obtain⟨b,X,h,cs,C,h1,M,N,O,_⟩:=NF K (x:=x) (by simp[Op.operands]) hx he;obtain⟨u,c,D,rfl,Q,R,_⟩:=pW O hz;obtain⟨A,c2,E,rfl,V,G⟩:=hp S w c R;have H:MemAt w b (h.length+(k*e.n+off)) c2:=by
  have B:=MemAt.of_heap N;have I:h++(u++(A++(c2++E)++D)++C)=(h++u++A)++(c2++(E++D++C)):=by simp
  rw[I] at B;have:=B.sub;have L:0+(h++u++A).length=h.length+(k*e.n+off):=by simp only[sM,Q,V];omega
  rw[L] at this;exact this
 refine OpWp.value (w':=w) (v:=e'.pk c2) ?_ (Res.same (by simp only[Slot.ok];exact⟨c2,G,rfl⟩));have:=Es (P:=F.P) H G hA hS;simp[execOp,M,Instr.loadAt,Instr.sureAddr,this]
theorem zX(o':Nat){α:Type}{e:Enc α}{U:TypeId}{fs:Array Field}{n m i k off:Nat}{fl:Field}(hx:cK σ.g x=some (.el i k e.n off))(hU:∀w,(underlying U).run F.P w= .ok (.struct fs) w)(hf:fs[n]? =some fl)
  (hm:∀w,(sizeOf fl.type).run F.P w= .ok m w) (hne:Nat.beq m 0=false) (ho:Nat.beq (off+fl.offset) o'=true):JO F ⟨d,.fieldAddr U x n,ty,p,af,gd⟩ σ (.el i k e.n o') []:=by
 have ho:=aAb ho;subst ho;intro ρ S a w K;have h:=K.slot x (by simp[Op.operands]) _ hx;simp only[Slot.ok] at h;obtain⟨⟨b,o,l,c,u⟩,z⟩:=h;rw[u] at z;refine OpWp.value (w':=w) (v:= .pointer (some ⟨b,o+(k*e.n+off)+fl.offset,none⟩)) ?_ (Res.same (by simp only[Slot.ok];exact⟨⟨b,o,l,c,u⟩,by rw[u];simp[Kl];omega⟩));have:=Cb (P:=F.P) (w:=w) (b:=b) (off:=o+(k*e.n+off)) hU hf hm hne;simp only[execOp,z,Kl];simp[this]
theorem qB{α:Type}{e:Enc α}{zs:List α}{z z':α}{T U:TypeId}{i k:Nat}(hz:zs[k]? =some z)(hx:cK σ.g x=some (.el i k e.n 0))(he:aW σ.d i=some (.arr T e zs))(hy:cK σ.g y=some (.v e z'))
  (hS:∀w,(sizeOf U).run F.P w= .ok e.n w):JM F ⟨none,.store U x y,ty,p,af,gd⟩ σ ⟨σ.g,(i,.arr T e (zs.set k z'))::σ.d⟩:=by
 refine pC he rfl fun ρ a w O G=>?_;have K:=bT O G (Op.store U x y).operands;obtain⟨b,S,h,cs,A,H,V,E,X,h5,h6,h7⟩:=NF K (x:=x) (by simp[Op.operands]) hx he;have D:=pY (s:= .v e z') rfl (Iu G hy);simp only[Slot.okc] at D;obtain⟨B,c,C,rfl,hl,I,aa⟩:=pW X hz;have L:h++(B++(c++C)++A)=(h++B)++(c++(C++A)):=by simp
 rw[L] at E;have M:=kL (P:=F.P) (w:=w) (U:=U) (off:=h.length+(k*e.n+0)) hS (by have:=e.len D;simp only[aA3] at this;omega) (fun u Q=>e.cell D u Q) E (by simp[hl]) (e.len I);have N:(h++B)++((a.eval y).cells.toList++(C++A))=h++((B++((a.eval y).cells.toList++C))++A):=by simp
 refine⟨b,w.setRow b ((h++B)++((a.eval y).cells.toList++(C++A))).toArray,.inl (by rw[H];rfl),Upd.setRow w b _,?_,fun R=>?_⟩
 ·exact kM V M
 ·refine .inr ⟨b,S,h,B++((a.eval y).cells.toList++C),A,by simpa using H,?_,Enc.okL_mono (aa z' _ D) R,by simpa using h5,?_,by simpa using h7⟩
  ·rw[<-N];exact setRow_heap w b _ _ T _ E
  ·have:=e.len D;have:=e.len I;simp only[sM] at h6 ⊢;omega
theorem Kv{P:Program}{w:World}{U E:TypeId}{m b off len:Nat}{k:IntKind}{n:Int}(hU:∀w,(underlying U).run P w= .ok (.array len E) w)(hE:∀w,(sizeOf E).run P w= .ok m w)(h0:0<=n)(h1:n<len):
  (Instr.indexAt U (.pointer (some ⟨b,off,none⟩)) (.int k n)).run P w= .ok (.pointer (some ⟨b,off+n.toNat*m,none⟩)) w:=by
 have:Addr.add ⟨b,off,none⟩ (n.toNat*m)=⟨b,off+n.toNat*m,none⟩:=Addr.add_lit _ _ _;simp[Instr.indexAt,asIntOf,hU,Instr.sureAddr,h0,h1,hE,this]
theorem uB{α:Type}{e:Enc α}{zs:List α}{T U E:TypeId}{l:List Slot}{len i off:Nat}{k:IntKind}{n:Int}{z:α}(hz:Sw.idx zs n=some z)(hx:cK σ.g x=some (.ptr i off))(he:aW σ.d i=some (.box T l pb))(ho:mP l off=some (.v (Enc.arr len e) zs))
  (hy:cK σ.g y=some (.v (Enc.int k) n)) (hU:∀w,(underlying U).run F.P w= .ok (.array len E) w) (hE:∀w,(sizeOf E).run F.P w= .ok e.n w):JO F ⟨d,.indexAddr U x y,ty,p,af,gd⟩ σ (.pel i off n.toNat e.n) []:=by
 intro ρ S a w K;obtain⟨b,H,h,B,I,C⟩:=yS K (x:=x) (by simp[Op.operands]) hx he;have A:=(fB K (x:=y) (by simp[Op.operands]) hy).1;obtain⟨D,L,M⟩:=cX hz;obtain⟨N,c,O,rfl,_,u,_⟩:=tZ ho C;simp only[Slot.okc] at u;have G:=u.1;refine OpWp.value (w':=w) (v:= .pointer (some ⟨b,off+n.toNat*e.n,none⟩)) ?_ (Res.same (by simp only[Slot.ok];exact⟨⟨b,h⟩,by rw[h];rfl⟩));have:=Kv (P:=F.P) (w:=w) (b:=b) (off:=off) (k:=k) hU hE D (by omega:n<(len:Int));simp only[execOp,B,A];simp[this]
theorem MM{xs:Array Operand}{ρ:Nat->LV}{S a w}(K:Know σ xs ρ S a w)(hm:x∈xs){i off k n:Nat}{T:TypeId}{l:List Slot}(hx:cK σ.g x=some (.pel i off k n))(he:aW σ.d i=some (.box T l pb)):
  ∃b cs,(ρ i).v= .pointer (some ⟨b,0,none⟩)/\a.eval x= .pointer (some ⟨b,off+k*n,none⟩)/\w.heap[b]? =some (.cells cs.toArray T (0,0))/\aZ ρ S w l cs:=by
 have h:=K.slot x hm _ hx;simp only[Slot.ok] at h;obtain⟨⟨b,u⟩,z⟩:=h;have:=(K.ent x hm _ hx i (by simp[Slot.lab]) _ he).1;rw[u] at z;obtain⟨⟨A,cs,B,C,D⟩,_⟩:=this;have:A=b:=by rw[u] at B;simpa using B.symm
 subst this;exact⟨A,cs,u,z,C,D⟩
theorem uC{α:Type}{e:Enc α}{zs:List α}{z:α}{T U:TypeId}{l:List Slot}{len i off k:Nat}(hz:zs[k]? =some z)(hx:cK σ.g x=some (.pel i off k e.n))(he:aW σ.d i=some (.box T l pb))(ho:mP l off=some (.v (Enc.arr len e) zs))
  (hA:∀w,(isAgg U).run F.P w= .ok e.agg w) (hS:∀w,(sizeOf U).run F.P w= .ok e.n w):JO F ⟨d,.load U x,ty,p,af,gd⟩ σ (.v e z) []:=by
 intro ρ S a w K;obtain⟨b,R,V,L,M,N⟩:=MM K (x:=x) (by simp[Op.operands]) hx he;obtain⟨h,c,B,rfl,O,C,_⟩:=tZ ho N;simp only[Slot.okc] at C;obtain⟨u,c',D,rfl,Q,E,_⟩:=pW C.2 hz;have G:MemAt w b (off+k*e.n) c':=by
  have A:=MemAt.of_heap M;have H:h++(u++(c'++D)++B)=(h++u)++(c'++(D++B)):=by simp
  rw[H] at A;have:=A.sub;have I:0+(h++u).length=off+k*e.n:=by simp[Q,O]
  rw[I] at this;exact this
 refine OpWp.value (w':=w) (v:=e.pk c') ?_ (Res.same (by simp only[Slot.ok];exact⟨c',E,rfl⟩));have:=Es (P:=F.P) G E hA hS;simp[execOp,L,Instr.loadAt,Instr.sureAddr,this]
theorem Sn{α:Type}{e:Enc α}{zs:List α}{z z':α}{T U:TypeId}{l:List Slot}{len i off k:Nat}(hz:zs[k]? =some z)(hx:cK σ.g x=some (.pel i off k e.n))(he:aW σ.d i=some (.box T l pb))(ho:mP l off=some (.v (Enc.arr len e) zs))
  (hy:cK σ.g y=some (.v e z')) (hS:∀w,(sizeOf U).run F.P w= .ok e.n w):JM F ⟨none,.store U x y,ty,p,af,gd⟩ σ ⟨σ.g,(i,.box T (nD l off (.v (Enc.arr len e) (zs.set k z'))) pb)::σ.d⟩:=by
 refine pC he rfl fun ρ a w H I=>?_;have K:=bT H I (Op.store U x y).operands;obtain⟨b,cs,L,V,G,X⟩:=MM K (x:=x) (by simp[Op.operands]) hx he;have D:=pY (s:= .v e z') rfl (Iu I hy);simp only[Slot.okc] at D;obtain⟨B,c,C,rfl,aa,E,h6⟩:=tZ ho X;simp only[Slot.okc] at E;obtain⟨ab,E⟩:=E;obtain⟨h,M,A,rfl,hl,ac,ad⟩:=pW E hz;have N:B++(h++(M++A)++C)=(B++h)++(M++(A++C)):=by simp
 rw[N] at G;have O:=kL (P:=F.P) (w:=w) (U:=U) (off:=off+k*e.n) hS (by have:=e.len D;simp only[aA3] at this;omega) (fun u R=>e.cell D u R) G (by simp[hl,aa]) (e.len ac);have Q:(B++h)++((a.eval y).cells.toList++(A++C))=B++((h++((a.eval y).cells.toList++A))++C):=by simp
 refine⟨b,w.setRow b ((B++h)++((a.eval y).cells.toList++(A++C))).toArray,.inl (by rw[L];rfl),Upd.setRow w b _,?_,fun S=>?_⟩
 ·exact kM V O
 ·refine⟨⟨b,B++((h++((a.eval y).cells.toList++A))++C),L,?_,?_⟩,(H.own i _ he).2⟩
  ·rw[<-Q];exact setRow_heap w b _ _ T _ G
  ·refine eZ _ _ (h6 (.v (Enc.arr len e) (zs.set k z')) (h++((a.eval y).cells.toList++A)) ?_) S (fun _ _=>rfl);simp only[Slot.okc];exact⟨by simpa using ab,ad z' _ D⟩
end
end Go.Sw
namespace Go.Sw
open Go Go.RowKit
def vE(d:List (Nat×Ent))(i:Nat):List (Nat×Ent):=match d with
 | []=>[]
 | (j,h)::r=>bif Nat.beq j i then vE r i else (j,h)::vE r i
theorem Jy{i k:Nat}:∀{d:List (Nat×Ent)},aW (vE d i) k=if k=i then none else aW d k
 | []=>by simp[vE,aW]
 | (j,A)::r=>by
  have u:=Jy (i:=i) (k:=k) (d:=r);simp only[vE];cases hb:Nat.beq j i with
  |true=>
   have:=aAb hb;subst this;simp only[aAe,u,bV];by_cases h:k=j
   ·simp[h]
   ·have:¬j=k:=fun e=>h e.symm;simp[h,this]
  |false=>
   have z:j≠i:=fun e=>by subst e;simp at hb
   simp only[pF,bV,u];by_cases h:j=k
   ·subst h;simp[z]
   ·simp[h]
structure Chg (b:Option Nat) (w w':World):Prop where
 size:w.heap.size<=w'.heap.size
 other:∀k,k<w.heap.size->some k≠b->w'.heap[k]? =w.heap[k]?
 os:w'.os=w.os
 tape:w'.tape=w.tape
 output:w'.output=w.output
theorem Chg.setRow(w:World)(b:Nat)(cs:Array Value):Chg (some b) w (w.setRow b cs):=⟨by simp[World.setRow],fun k _ h=>setRow_other w b k cs (fun e=>h (by rw[e])),rfl,rfl,rfl⟩
theorem Chg.refl(b:Option Nat)(w:World):Chg b w w:=⟨aAi _,fun _ _ _=>rfl,rfl,rfl,rfl⟩
theorem Chg.alloc(b:Option Nat)(w:World)(o:Obj):Chg b w (w.drew.alloc o):=⟨by simp,fun k h _=>heap_alloc_old w.drew o k h,rfl,rfl,rfl⟩
section
variable {F:Frm}{σ:AS}{s:Slot}{d:Option Tmp}{ty:TypeId}{p:String}{af:Array Edge}{gd:Option (Nat×Bool)}{x y:Operand}
theorem Yl{ρ:Nat->LV}{a:Act}{w w':World}{i j:Nat}{en en':Ent}{u:LV}(hc:Core F σ.d ρ w)(hs:∀t s,lk σ.g t=some s->s.ok ρ (Un F.S0 ρ σ.d) w (a.tmps.getD t undef))(hz:a.tmps.size=F.N)(hde:a.defers=F.df)
  (hi:aW σ.d i=some en) (hf:σ.free [(j,en')]=true) (hdst:gA d F.N=true) (hu:Chg (blk (ρ i).v) w w') (hsh:Yc u.v) (hlab:en'.lab=[])
  (hb:∀b,pV u b->(pV (ρ i) b\/w.heap.size<=b)/\b<w'.heap.size)
  (hen:∀S' ρ',Ext (Un F.S0 ρ σ.d) S' w w'->en'.ok ρ' S' w' u):St F ⟨hX d (.ref j) σ.g,(j,en')::vE σ.d i⟩ (a.put d u.v) w':=by
 let ρ':Nat->LV:=fun k=>if k=j then u else ρ k
 have H:ρ' j=u:=aAn rfl;have E:∀k,k≠j->ρ' k=ρ k:=fun k h=>aAj h;have U:=kF hf (i:=j) (en:=en') (by simp[aW]);have L:∀k e,aW ((j,en')::vE σ.d i) k=some e->(k=j/\e=en')\/(k≠j/\k≠i/\aW σ.d k=some e):=by
  intro k e h;rw[bV] at h;split at h
  ·rename_i z;cases h;exact .inl ⟨z.symm,rfl⟩
  ·rename_i z;rw[Jy] at h;split at h
   ·cases h
   ·rename_i B;exact .inr ⟨fun e=>z e.symm,B,h⟩
 have hU:∀k,k<w.heap.size->Un F.S0 ρ' ((j,en')::vE σ.d i) k->Un F.S0 ρ σ.d k:=by
  rintro k I (h |⟨q,e,z,B⟩)
  ·exact .inl h
  ·rcases L q e z with⟨rfl,rfl⟩|⟨A,D,M⟩
   ·rw[H] at B;rcases (hb k B).1 with h | h
    ·exact .inr ⟨i,en,hi,h⟩
    ·omega
   ·rw[E q A] at B;exact .inr ⟨q,e,M,B⟩
 have S:Ext (Un F.S0 ρ σ.d) (Un F.S0 ρ' ((j,en')::vE σ.d i)) w w':=⟨hu.size,fun k I hn=>⟨hu.other k I (fun e=>hn (.inr ⟨i,en,hi,.inl e.symm⟩)),fun h=>hn (hU k I h)⟩⟩
 have ac:∀t s,lk σ.g t=some s->lP ρ ρ' s.lab:=fun t s h k I=>congrArg LV.v (E k fun e=>by subst e;exact U.1 t s h I);have V:∀k e b,k≠i->aW σ.d k=some e->pV (ρ k) b->¬pV (ρ i) b:=fun k e b h z B A=>h (hc.inj k i e en b z hi B A);refine⟨⟨ρ',⟨hc.low,aBq hc.size hu.size,fun k I hr=>?_,hu.os.trans hc.os,hu.tape.trans hc.tape,hu.output.trans hc.output,fun k e h=>?_,fun k e b h C=>?_,fun k O e K b h h' Q P=>?_,fun k e b h C=>?_⟩,?_⟩,by rw[kG,hz],by cases d<;>exact hde⟩
 ·rw[hu.other k (aAy I hc.size) (fun e=>?_)]
  ·exact hc.frame k I hr
  ·rcases (hc.fresh i en k hi (.inl e.symm)).1 with h | h
   ·omega
   ·exact hr h
 ·rcases L k e h with⟨rfl,rfl⟩|⟨z,B,A⟩
  ·rw[H];exact hen _ _ S
  ·rw[E k z];refine Ent.ok_mono (hc.own k e A) S (fun q hq=>congrArg LV.v (E q fun K=>?_)) (fun b C=>hu.other b (hc.fresh k e b A C).2 (fun K=>V k e b B A C (.inl K.symm)));subst K;exact U.2.2 k e A hq
 ·rcases L k e h with⟨rfl,rfl⟩|⟨z,B,A⟩
  ·rw[H] at C;obtain⟨D,M⟩:=hb b C;refine⟨?_,M⟩;rcases D with D | D
   ·exact(hc.fresh i en b hi D).1
   ·exact .inl (aBq hc.size D)
  ·rw[E k z] at C;exact⟨(hc.fresh k e b A C).1,aAy (hc.fresh k e b A C).2 hu.size⟩
 ·have X:∀k e,k≠j->k≠i->aW σ.d k=some e->pV (ρ k) b->pV u b->False:=fun k e _ B A D M=>by
   rcases (hb b M).1 with h6 | h6
   ·exact V k e b B A D h6
   ·have:=(hc.fresh k e b A D).2;omega
  rcases L k e h with⟨rfl,rfl⟩|⟨z,B,A⟩
  ·rcases L O K h' with⟨rfl,rfl⟩|⟨R,ab,T⟩
   ·rfl
   ·rw[H] at Q;rw[E O R] at P;exact(X O K R ab T P Q).elim
  ·rw[E k z] at Q;rcases L O K h' with⟨rfl,rfl⟩|⟨R,ab,T⟩
   ·rw[H] at P;exact(X k e z B A Q P).elim
   ·rw[E O R] at P;exact hc.inj k O e K b A T Q P
 ·rcases L k e h with⟨rfl,rfl⟩|⟨z,B,A⟩
  ·rw[H] at C;rcases (hb b C).1 with D | D
   ·exact hc.apart i en b hi D
   ·intro M;have:=hc.low b M;have:=hc.size;omega
  ·rw[E k z] at C;exact hc.apart k e b A C
 ·intro t s G;have aa:∀t s,lk σ.g t=some s->s.ok ρ' (Un F.S0 ρ' ((j,en')::vE σ.d i)) w' (a.tmps.getD t undef):=fun t s G=>Slot.ok_mono s _ (hs t s G) S (ac t s G);cases d with
  |none=>exact aa t s G
  |some q=>
   simp only[hX] at G;have ad:q<a.tmps.size:=by rw[hz];exact aAd hdst
   rw[kH a q u.v t ad];rw[lK] at G;split at G
   ·rename_i z;cases G;rw[aAn z];simp only[Slot.ok];exact⟨by rw[H];exact hsh,by rw[H]⟩
   ·rename_i z;rw[aAj z];exact aa t s G
def Src(σ:AS)(y:Operand){α:Type}(e:Enc α)(ys:List α):Prop:=∀(ρ:Nat->LV) (S:Nat->Prop) (a:Act) (w:World),Know σ #[y] ρ S a w->
 ys.length<=140737488355328/\∃ad cap,a.eval y= .slice ad ys.length cap/\(ys=[]\/∃b off ds,ad=some ⟨b,off,none⟩/\MemAt w b off ds/\e.okL ys S w ds)
theorem Src.sl{α:Type}{e:Enc α}{ys:List α}(h:cK σ.g y=some (.v (Enc.sl e) ys)):Src σ y e ys:=by
 intro ρ S a w K;have z:=K.slot y (by simp) _ h;simp only[Slot.ok] at z;obtain⟨A,B,C,D,u⟩:=rJ.1 z;refine⟨D.2,A,B,C,?_⟩;rcases u with u |⟨b,E,F,G,_,_,H,I⟩
 ·exact .inl u
 ·exact .inr ⟨b,E,F,G,H,I⟩
def app{α:Type}(xs ys:List α):Option (List α):=if xs.length+ys.length<=4294967296 then some (xs++ys) else none
theorem So{α:Type}{xs ys zs:List α}(h:app xs ys=some zs):xs.length+ys.length<=4294967296/\zs=xs++ys:=by
 unfold app at h;split at h
 ·rename_i u;exact⟨u,by cases h;rfl⟩
 ·cases h
theorem sJ{P:Program}{w:World}{U E tt:TypeId}{n:Nat}{base ad:Option Addr}{l c cap:Nat}(hU:∀w,(underlying U).run P w= .ok (.slice E) w)(hE:∀w,(sizeOf E).run P w= .ok n w)(hle:l<=cap):
  (Builtin.append_ #[U,U] tt #[.slice base l cap,.slice ad 0 c]).run P w= .ok (.slice base l cap) w:=by
 have h:(Builtin.firstCells n 0 (.slice ad 0 c)).run P w= .ok #[] w:=by
  cases ad<;>simp[Builtin.firstCells,loadCells,loadCellsFrom]
 cases base<;>simp[Builtin.append_,hU,hE,Builtin.lenOf,hle,h,storeCells]
theorem Eg{P:Program}{w:World}{U E tt:TypeId}{n g off l cap m c:Nat}{cur:List Value}{a:Addr}{news:List Value}(hU:∀w,(underlying U).run P w= .ok (.slice E) w)(hE:∀w,(sizeOf E).run P w= .ok n w)
  (hg:w.heap[g]? =some (.cells cur.toArray E (0,0))) (hl:news.length=m*n) (hnews:∀j u,news[j]? =some u->w.cell? (a.add j)=some u) (h1:∀u∈news,u.oneCell'=true) (hroom:l+m<=cap) (hfit:off+l*n+news.length<=cur.length):
  (Builtin.append_ #[U,U] tt #[.slice (some ⟨g,off,none⟩) l cap,.slice (some a) m c]).run P w=
   .ok (.slice (some ⟨g,off,none⟩) (l+m) cap) (w.setRow g (cur.take (off+l*n)++news++cur.drop (off+l*n+news.length)).toArray):=by
 have z:=run_firstCells_some (P:=P) w n m a m c news hl hnews;have h:=run_storeCells_at P g (off+l*n) E news 0 cur.toArray w hg (by simpa using hfit) h1;simp only[aDh] at h;simp[Builtin.append_,hU,hE,Builtin.lenOf,hroom,z,Addr.add_lit,h]
theorem bR{α:Type}{e:Enc α}{xs ys zs:List α}{T U:TypeId}{ti:TypeInfo}{z:Value}{i:Nat}(j:Nat)(ha:app xs ys=some zs)(hx:cK σ.g x=some (.ref i))(he:aW σ.d i=some (.arr T e xs))(hy:Src σ y e ys)
  (hU:∀w,(underlying U).run F.P w= .ok (.slice T) w) (hI:∀w,(typeInfo T).run F.P w= .ok ti w) (hS:∀w,(sizeOf T).run F.P w= .ok e.n w) (hz:ti.zero=some z) (hzs:z.cells.size=e.n) (hby:Nat.ble ti.bytes 4096=true)
  (hf:σ.free [(j,.arr T e zs)]=true) (hd:gA d F.N=true):
  JM F ⟨d,.call ⟨.builtin .append,#[x,y],#[U,U]⟩,ty,p,af,gd⟩ σ ⟨hX d (.ref j) σ.g,(j,.arr T e zs)::vE σ.d i⟩:=by
 obtain⟨X,rfl⟩:=So ha;have hby:=aAd hby;rintro a w ⟨⟨ρ,hc,hs⟩,ay,az⟩;have K:=bT hc hs (Op.call ⟨.builtin .append,#[x,y],#[U,U]⟩).operands;have aa:ti.size=e.n:=Jw hI hS;obtain⟨h1,A,h3⟩:=xO K (x:=x) (by simp[Op.operands,Call.operands]) hx he;have ai:∀q,q∈#[y]->q∈(Op.call ⟨.builtin .append,#[x,y],#[U,U]⟩).operands:=by
  intro q R;have am:q=y:=by simpa using R
  subst am;simp[Op.operands,Call.operands]
 obtain⟨a0,ad,c,h4,h5⟩:=hy ρ _ a w ⟨K.low,fun q R s h=>K.slot q (ai q R) s h,fun q R s h=>K.ent q (ai q R) s h⟩;have an:∀v w',(Builtin.append_ #[U,U] ty #[(ρ i).v,.slice ad ys.length c]).run F.P w= .ok v w'->(execOp a.eval ⟨d,.call ⟨.builtin .append,#[x,y],#[U,U]⟩,ty,p,af,gd⟩).run F.P w= .ok (.value v) w':=by
  intro v w' h;simp[execOp,resolve,invoke,builtin,h1,h4,h]
 have fin:∀u w',(Builtin.append_ #[U,U] ty #[(ρ i).v,.slice ad ys.length c]).run F.P w= .ok u w'->Chg (blk (ρ i).v) w w'->Yc u->(∀b,blk u=some b->(blk (ρ i).v=some b\/w.heap.size<=b)/\b<w'.heap.size)->
   (∀C ρ',Ext (Un F.S0 ρ σ.d) C w w'->(Ent.arr T e (xs++ys)).ok ρ' C w' (.of u))->
   OpWp F.P ⟨d,.call ⟨.builtin .append,#[x,y],#[U,U]⟩,ty,p,af,gd⟩ a w fun v w'=>St F ⟨hX d (.ref j) σ.g,(j,.arr T e (xs++ys))::vE σ.d i⟩ (a.put d v) w':=
  fun u w' H hu aw hb ax=>OpWp.value (an u w' H) (Yl (u:= .of u) hc hs ay az he hf hd hu aw rfl (fun b h=>⟨(hb b (nY.1 h)).1.imp .inl id,(hb b (nY.1 h)).2⟩) ax)
 rcases h5 with rfl |⟨b,al,D,rfl,hm,ah⟩
 ·
  rw[aBa] at*;rcases A with⟨rfl,A⟩|⟨b,cap,B,cs,G,A,I,L,M,h9⟩
  ·refine fin (.slice none 0 0) w ?_ (Chg.refl _ _) (.inl ⟨_,_,_,rfl⟩) (fun b h=>by simp[blk] at h) (fun _ _ _=> .inl ⟨rfl,rfl⟩);rw[A];exact sJ hU hS (aAi _)
  ·refine fin (ρ i).v w ?_ (Chg.refl _ _) (.inl ⟨_,_,_,A⟩) (fun b h=>⟨.inl h,(h3 b (.inl h)).2⟩) (fun C ρ' E=>?_)
   ·rw[A];exact sJ hU hS M
   ·exact .inr ⟨b,cap,B,cs,G,A,I,Enc.okL_mono L E,M,h9⟩
 ·have O:=cA ah;have ab:=hm.cell;have ao:=qK ah;have ac:∀(C:Nat->Prop) (w':World) (cs:List Value),Ext (Un F.S0 ρ σ.d) C w w'->e.okL xs (Un F.S0 ρ σ.d) w cs->e.okL (xs++ys) C w' (cs++D):=fun C w' cs E h=>fU (Enc.okL_mono h E) (Enc.okL_mono ah E);have aj:∀q,(Builtin.zeroCells z.cells q).toList.length=q*e.n:=fun q=>by rw[aA3,size_zeroCells,hzs]
  by_cases ap:ys.length=0
  ·
   have aq:ys=[]:=aAu ap;subst aq;rw[aBa] at*;rcases A with⟨rfl,A⟩|⟨V,cap,B,cs,G,A,I,L,M,h9⟩
   ·refine fin (.slice none 0 0) w ?_ (Chg.refl _ _) (.inl ⟨_,_,_,rfl⟩) (fun b h=>by simp[blk] at h) (fun _ _ _=> .inl ⟨rfl,rfl⟩);rw[A];exact sJ hU hS (aAi _)
   ·refine fin (ρ i).v w ?_ (Chg.refl _ _) (.inl ⟨_,_,_,A⟩) (fun b h=>⟨.inl h,(h3 b (.inl h)).2⟩) (fun C ρ' E=>?_)
    ·rw[A];exact sJ hU hS M
    ·exact .inr ⟨V,cap,B,cs,G,A,I,Enc.okL_mono L E,M,h9⟩
  rcases A with⟨rfl,A⟩|⟨g,cap,B,cs,G,A,I,L,M,h9,a1⟩
  ·
   have H:=run_append_nil (P:=F.P) w U ty T ti z (qA hU) (sY hI) hz ⟨b,al,none⟩ ys.length c D (by rw[aa];exact O) ab (by omega) (by simp at X;omega) (by
    have:ys.length*ti.bytes<=4294967296*4096:=aCt (by simp at X;omega) hby
    omega)
   have ae:=grownCap_ge w ys.length 0 T;refine fin _ _ (by rw[A];exact H) (Chg.alloc _ _ _) (.inl ⟨_,_,_,rfl⟩) (fun V h=>?_) (fun C ρ' E=>?_)
   ·simp only[blk,aAk] at h;subst h;exact⟨.inr (aAi _),by simp⟩
   ·have ak:=ac C _ [] E rfl;simp only[aBd] at ak ⊢;refine .inr ⟨w.heap.size,_,[],D,(Builtin.zeroCells z.cells (grownCap w ys.length 0 T - ys.length)).toList,rfl,?_,ak,ae,?_,by simp at X;omega⟩
    ·rw[show w.heap.size=w.drew.heap.size from rfl,heap_alloc_new];simp
    ·rw[O,aj,<-aBe];exact aBx _ (by omega)
  ·by_cases S:xs.length+ys.length<=cap
   ·
    have Q:=cA L;have au:B.length+xs.length*e.n+D.length<=(B++(cs++G)).length:=by
     have:(xs.length+ys.length)*e.n<=cap*e.n:=aBx _ S;rw[aBe] at this;simp only[sM];omega
    have H:=Eg (P:=F.P) (w:=w) (tt:=ty) (cap:=cap) (c:=c) hU hS I (by exact O) ab ao S au;have e1:(B++(cs++G)).take (B.length+xs.length*e.n)=B++cs:=by
     rw[<-aAm,<-Q,<-sM];exact aCn
    have e2:(B++(cs++G)).drop (B.length+xs.length*e.n+D.length)=G.drop D.length:=by
     rw[<-aAm,<-Q,<-sM,aD4];simp
    rw[e1,e2] at H;refine fin _ _ (by rw[A];exact H) (by rw[A];exact Chg.setRow w g _) (.inl ⟨_,_,_,rfl⟩) (fun V h=>?_) (fun C ρ' E=>?_)
    ·rw[A];simp only[blk,aAk] at h ⊢;subst h;exact⟨.inl rfl,by have:=(MemAt.of_heap I).lt;simpa[World.setRow] using this⟩
    ·refine .inr ⟨g,cap,B,cs++D,G.drop D.length,by simp[LV.of],?_,ac C _ cs E L,by simpa using S,?_,by simp;omega⟩
     ·have:=setRow_heap w g _ (B++cs++D++G.drop D.length).toArray T _ I;rw[this];simp
     ·have:(xs.length+ys.length)*e.n<=cap*e.n:=aBx _ S;rw[aBe] at this;simp only[sM,aA1];omega
   ·
    have Q:=cA L;have av:MemAt w g B.length cs:=by have:=(MemAt.of_heap I).sub;simpa using this
    have H:=run_append_grow (P:=F.P) w U ty T ti z (qA hU) (sY hI) hz ⟨g,B.length,none⟩ xs.length cap cs (by rw[aa];exact Q) av.cell ⟨b,al,none⟩ ys.length c D (by rw[aa];exact O) ab (by omega) (by omega) (growslice_fits (by omega) (by
     have:(xs.length+ys.length)*ti.bytes<=4294967296*4096:=aCt X hby
     omega))
    have ae:=grownCap_ge w (xs.length+ys.length) cap T;refine fin _ _ (by rw[A];exact H) (Chg.alloc _ _ _) (.inl ⟨_,_,_,rfl⟩) (fun V h=>?_) (fun C ρ' E=>?_)
    ·simp only[blk,aAk] at h;subst h;exact⟨.inr (aAi _),by simp⟩
    ·refine .inr ⟨w.heap.size,grownCap w (xs.length+ys.length) cap T,[],cs++D,(Builtin.zeroCells z.cells (grownCap w (xs.length+ys.length) cap T - (xs.length+ys.length))).toList,by simp[LV.of],?_,ac C _ cs E L,by simpa using ae,?_,by simp;omega⟩
     ·rw[show w.heap.size=w.drew.heap.size from rfl,heap_alloc_new];have:cs.toArray++D.toArray++Builtin.zeroCells z.cells (grownCap w (xs.length+ys.length) cap T - (xs.length+ys.length))=
        ([]++((cs++D)++(Builtin.zeroCells z.cells (grownCap w (xs.length+ys.length) cap T - (xs.length+ys.length))).toList)).toArray:=by
       apply Array.ext';simp
      rw[this]
     ·rw[sM,Q,O,aj,<-aBe,<-aBe];exact aBx _ (by omega)
end
end Go.Sw
namespace Go.Sw
open Go Go.RowKit
theorem Iw:∀(vs:List Value) (k off:Nat) (cs:Array Value),off+k+vs.length<=cs.size->
  ((vs.zipIdx k).foldl (fun cs (x:Value×Nat)=>cs.setIfInBounds (off+x.2) x.1) cs).toList=cs.toList.take (off+k)++vs++cs.toList.drop (off+k+vs.length)
 | [],k,off,cs,_=>by simp
 |v::vs,k,off,cs,h=>by
  simp only[aCk,aA8];rw[Iw vs (k+1) off _ (by simp at h ⊢;omega)];have u:off+k<cs.toList.length:=by simp at h ⊢;omega
  simp only[Array.toList_setIfInBounds];have z:off+(k+1)=off+k+1:=by omega
  rw[z,List.take_set,List.drop_set_of_lt (by omega)];have A:(cs.toList.take (off+k+1)).set (off+k) v=cs.toList.take (off+k)++[v]:=by
   rw[List.take_succ_eq_append_getElem u,List.set_append_right _ _ (by rw[aAp];omega)];have:off+k - (cs.toList.take (off+k)).length=0:=by rw[aAp];omega
   rw[this];rfl
  rw[A];simp only[aAq,aAm,aD2];congr 3;omega
theorem Dd{place:Nat->Option (Nat×Nat)}{cells:Array Value}{i off n:Nat}{v:Value}{rest:List (Nat×Value)}{a c e:List Value}(hp:place i=some (off,n))(hn:v.cells.size=n)(hc:cells.toList=a++(c++e))(ha:a.length=off)(hl:c.length=n):
  Instr.fill place cells ((i,v)::rest)=Instr.fill place (a++(v.cells.toList++e)).toArray rest:=by
 have A:cells.size=a.length+(c.length+e.length):=by rw[<-aA3,hc];simp
 have h:¬(v.cells.size≠n || decide (off+v.cells.size>cells.size))=true:=by
  simp only[aCi,aC2,not_or];omega
 simp only[Instr.fill,hp];rw[aAj h];congr 1;apply Array.ext';have:=Iw v.cells.toList 0 off cells (by simp;omega);simp only[aDh] at this;rw[<-aEg,Array.toList_zipIdx,this,hc];have u:(a++(c++e)).take off=a:=by rw[<-ha];exact aCn
 have z:(a++(c++e)).drop (off+v.cells.toList.length)=e:=by
  rw[<-aAm];have:off+v.cells.toList.length=(a++c).length:=by simp;omega
  rw[this];exact aB5
 rw[u,z];simp
section
variable {F:Frm}{σ:AS}{s:Slot}{d:Option Tmp}{ty:TypeId}{p:String}{af:Array Edge}{gd:Option (Nat×Bool)}{x y:Operand}
def Qj(l:List Slot)(p q:Nat)(new:List Slot):List Slot:=l.take p++(new++l.drop (p+q))
def EF(l:List Slot):Nat:=(l.map Slot.sz).sum
theorem Jz{ρ:Nat->LV}{S:Nat->Prop}{w:World}:∀{l:List Slot} {cs:List Value},aZ ρ S w l cs->cs.length=EF l:=by
 intro l
 induction l with
 |nil=>intro cs h;simp only[aZ] at h;simp[h,EF]
 |cons t l A=>
  intro cs h;simp only[aZ] at h;obtain⟨c,d,rfl,u,z⟩:=h;rw[sM,mT u,A z];simp[EF]
theorem AX{ρ:Nat->LV}{S:Nat->Prop}{w:World}:∀{l:List Slot} {cs:List Value},l.all Slot.plain=true->aZ ρ S w l cs->∀u∈cs,u.oneCell'=true:=by
 intro l
 induction l with
 |nil=>intro cs _ h;simp only[aZ] at h;simp[h]
 |cons t l D=>
  intro cs A h u z;simp only[aZ] at h;obtain⟨c,d,rfl,B,C⟩:=h;simp only[List.all_cons,aAr] at A;rcases aA0.1 z with z | z
  ·exact Fy B u z (fun e=>by subst e;cases A.1)
  ·exact D A.2 C u z
theorem Kw{ρ:Nat->LV}{S:Nat->Prop}{w:World}{l new:List Slot}{p q off n:Nat}{cs:List Value}(h1:Nat.beq (EF (l.take p)) off=true)(h2:Nat.beq (EF ((l.drop p).take q)) n=true)(h:aZ ρ S w l cs):
  ∃a c d,cs=a++(c++d)/\a.length=off/\c.length=n/\∀c',aZ ρ S w new c'->aZ ρ S w (Qj l p q new) (a++(c'++d)):=by
 replace h1:=aAb h1;replace h2:=aAb h2;rw[<-aAt p l,wJ] at h;obtain⟨a,e,rfl,u,z⟩:=h;rw[<-aAt q (l.drop p),wJ,aDb] at z;obtain⟨c,d,rfl,B,C⟩:=z;refine⟨a,c,d,rfl,by rw[Jz u,h1],by rw[Jz B,h2],fun c' A=>?_⟩;unfold Qj;rw[wJ];exact⟨a,c'++d,rfl,u,wJ.2 ⟨c',d,rfl,A,C⟩⟩
inductive Parts (σ:AS) (pl:Array (Nat×Nat)):List Slot->List (Nat×Operand)->List Slot->Prop
 |nil {l:List Slot}:Parts σ pl l [] l
 |cons {l l':List Slot} {i off n:Nat} {x:Operand} {s s0:Slot} {rest:List (Nat×Operand)}:pl[i]? =some (off,n)->Arg σ false x s->s.plain=true->s.sz=n->mP l off=some s0->s0.sz=n->Parts σ pl (nD l off s) rest l'->Parts σ pl l ((i,x)::rest) l'
 |agg {l l' new:List Slot} {i off n:Nat} {x:Operand} {rest:List (Nat×Operand)} (p q:Nat):pl[i]? =some (off,n)->cK σ.g x=some (.agg new)->new.all Slot.plain=true->Nat.beq (EF new) n=true->Nat.beq (EF (l.take p)) off=true->Nat.beq (EF ((l.drop p).take q)) n=true->Parts σ pl (Qj l p q new) rest l'->Parts σ pl l ((i,x)::rest) l'
theorem Parts.spec{pl:Array (Nat×Nat)}{l l':List Slot}{ps:List (Nat×Operand)}(h:Parts σ pl l ps l'){ρ S a w}{ys:Array Operand}(hys:∀x∈ps.map (·.2),x∈ys)(K:Know σ ys ρ S a w):
  ∀cs:List Value,aZ ρ S w l cs->∃ds:List Value,Instr.fill (pl[·]?) cs.toArray (ps.map fun q=>(q.1,a.eval q.2))=some ds.toArray/\aZ ρ S w l' ds:=by
 induction h with
 |nil=>intro cs h;exact⟨cs,rfl,h⟩
 |cons L M T A N O _ P=>
  rename_i l l' i V n x s s0 X _;intro cs C
  have z:=M ρ S a w ⟨K.low,fun y u s h=>K.slot y (hys y (by
   have:y=x:=by simpa using u
   subst this;simp)) s h,fun y u s h=>K.ent y (hys y (by
    have:y=x:=by simpa using u
    subst this;simp)) s h⟩
  simp only[aAw,aA4] at z;have B:=pY T z;obtain⟨D,c,E,rfl,F,k1,G⟩:=tZ N C;obtain⟨ds,H,I⟩:=P (fun y u=>hys y (by simp only[aAx,aAo];exact .inr u)) _ (G s _ B);refine⟨ds,?_,I⟩;rw[aAx,Dd (a:=D) (c:=c) (e:=E) L (by have:=mT B;simp only[aA3] at this;rw[this];exact A) (by simp) F (by rw[mT k1];exact O)];exact H
 |agg p q L M T A N O _ P=>
  rename_i l l' aa i V n x X _;intro cs C;replace A:=aAb A;have z:=K.slot x (hys x (by simp)) _ M;simp only[Slot.ok] at z;obtain⟨c',Q,R⟩:=z;obtain⟨D,c,E,rfl,F,B,G⟩:=Kw N O C;obtain⟨ds,H,I⟩:=P (fun y u=>hys y (by simp only[aAx,aAo];exact .inr u)) _ (G c' R);refine⟨ds,?_,I⟩;have U:(a.eval x).cells.toList=c':=by rw[Q];simp[Value.cells]
  rw[aAx,Dd (a:=D) (c:=c) (e:=E) L (by rw[Q];simp[Value.cells,Jz R,A]) (by simp) F B,U];exact H
theorem bE{T:TypeId}{pl:Array (Nat×Nat)}{zs:List Value}{ps:List (Nat×Operand)}{l l':List Slot}(hB:∀parts,F.P.built T parts=Instr.fill (pl[·]?) zs.toArray parts)(hz:Zr zs l)(hp:Parts σ pl l ps l'):
  JO F ⟨d,.build T ps.toArray,ty,p,af,gd⟩ σ (.agg l') []:=by
 intro ρ S a w K;obtain⟨h,z,A⟩:=hp.spec (ys:=(Op.build T ps.toArray).operands) (by intro x u;simp[Op.operands] at u ⊢;exact u) K zs (hz ρ S w);refine OpWp.value (w':=w) (v:= .agg h.toArray) ?_ (Res.same (by simp only[Slot.ok];exact⟨h,rfl,A⟩));have:=run_build (P:=F.P) w T (ps.map fun q=>(q.1,a.eval q.2)).toArray h.toArray (by rw[hB];exact z);simp only[execOp,aDc];simp[this]
inductive Elems (σ:AS) {α:Type} (e:Enc α):Nat->List (Nat×Operand)->List α->Prop
 |nil {k:Nat}:Elems σ e k [] []
 |cons {k:Nat} {x:Operand} {z:α} {ps:List (Nat×Operand)} {zs:List α}:Arg σ false x (.v e z)->Elems σ e (k+1) ps zs->Elems σ e k ((k,x)::ps) (z::zs)
theorem Elems.spec{α:Type}{e:Enc α}{k:Nat}{ps:List (Nat×Operand)}{zs:List α}(h:Elems σ e k ps zs){ρ S a w}{ys:Array Operand}(hys:∀x∈ps.map (·.2),x∈ys)(K:Know σ ys ρ S a w):
  ∀pre rest:List Value,pre.length=k*e.n->rest.length=ps.length*e.n->∃ds:List Value,Instr.fill (fun i=>some (i*e.n,e.n)) (pre++rest).toArray (ps.map fun q=>(q.1,a.eval q.2))=some (pre++ds).toArray/\e.okL zs S w ds:=by
 induction h with
 |nil=>intro pre rest D E;simp at E;subst E;exact⟨[],rfl,rfl⟩
 |cons D _ L=>
  rename_i k x z ps zs _;intro pre rest F G
  have C:=D ρ S a w ⟨K.low,fun y u s h=>K.slot y (hys y (by
   have:y=x:=by simpa using u
   subst this;simp)) s h,fun y u s h=>K.ent y (hys y (by
    have:y=x:=by simpa using u
    subst this;simp)) s h⟩
  simp only[aAw,aA4] at C;have A:=pY (s:= .v e z) rfl C;simp only[Slot.okc] at A;have B:=e.len A;simp only[aAq,aBe,aCl] at G;obtain⟨ds,H,I⟩:=L (fun y u=>hys y (by simp only[aAx,aAo];exact .inr u)) (pre++(a.eval x).cells.toList) (rest.drop e.n) (by rw[sM,F,B,aBe,aCl]) (by rw[aA1];omega);refine⟨(a.eval x).cells.toList++ds,?_,⟨_,_,rfl,A,I⟩⟩;rw[aAx,Dd (a:=pre) (c:=rest.take e.n) (e:=rest.drop e.n) rfl (by simp only[aA3] at B;exact B) (by simp) F (by rw[aAp];omega)];simpa[aAm] using H
theorem JH{P:Program}{w:World}{U E:TypeId}{n len:Nat}{z:Value}{parts:Array (Nat×Value)}{R:List Value->Prop}(hU:∀w,(underlying U).run P w= .ok (.slice E) w)(hS:∀w,(sizeOf E).run P w= .ok n w)(hz:∀w,(zeroValue E).run P w= .ok z w)
  (hle:len*n<=16777216) (hf:∀rest:List Value,rest.length=len*n->∃ds:List Value,Instr.fill (fun i=>some (i*n,n)) rest.toArray parts.toList=some ds.toArray/\R ds):
  ∃ds:List Value,R ds/\(Instr.buildSlice U len parts).run P w= .ok (.slice (some ⟨w.heap.size,0,none⟩) len len) (w.alloc (.cells ds.toArray E)):=by
 have C:¬(16777216<len*n):=by omega
 have D:∀A:Array Value,∃ds:List Value,R ds/\Instr.fill (fun i=>some (i*n,n)) ((Array.range (len*n)).map (A[·% A.size]!)) parts.toList=some ds.toArray:=by
  intro A;obtain⟨ds,B,h⟩:=hf ((Array.range (len*n)).map (A[·% A.size]!)).toList (by simp);exact⟨ds,h,by rw[<-B]⟩
 obtain⟨ds,B,h⟩:=D (if len*n=0 then #[] else z.cells);refine⟨ds,B,?_⟩;unfold Instr.buildSlice;simp only[Sem.run_bind,hU,hS,Result.andThen_ok];rw[aAj (by simpa using C)];by_cases u:len*n=0
 ·rw[aAn u] at h;simp only[Sem.run_bind,Sem.run_pure,Result.andThen_ok,u,aBb];rw[u] at h;rw[h];simp[newRow]
 ·rw[aAj u] at h;simp only[Sem.run_bind,Sem.run_pure,Result.andThen_ok,u,aA4,hz];rw[h];simp[newRow]
theorem Ix(w:World)(ds:List Value)(E:TypeId):MemAt (w.alloc (.cells ds.toArray E)) w.heap.size 0 ds:=MemAt.of_heap (T:=E) (fr:=(0,0)) (heap_alloc_new _ _)
theorem Qk{α:Type}{e:Enc α}{U E:TypeId}{len:Nat}{z:Value}{ps:List (Nat×Operand)}{zs:List α}{ρ S a w}(hU:∀w,(underlying U).run F.P w= .ok (.slice E) w)(hS:∀w,(sizeOf E).run F.P w= .ok e.n w)(hz:∀w,(zeroValue E).run F.P w= .ok z w)
  (hle:Nat.ble (len*e.n) 16777216=true) (hl:ps.length=len) (he:Elems σ e 0 ps zs) (K:Know σ (Op.buildSlice U len ps.toArray).operands ρ S a w):
  ∃ds:List Value,e.okL zs S w ds/\(execOp a.eval ⟨d,.buildSlice U len ps.toArray,ty,p,af,gd⟩).run F.P w= .ok (.value (.slice (some ⟨w.heap.size,0,none⟩) len len)) (w.alloc (.cells ds.toArray E)):=by
 obtain⟨ds,h,u⟩:=JH (P:=F.P) (w:=w) (U:=U) (len:=len) (parts:=(ps.map fun q=>(q.1,a.eval q.2)).toArray) (R:=fun ds=>e.okL zs S w ds) hU hS hz (aAd hle) (fun B C=>by
  obtain⟨ds,h,u⟩:=he.spec (ys:=(Op.buildSlice U len ps.toArray).operands) (by intro x A;simp[Op.operands] at A ⊢;exact A) K [] B (by simp) (by rw[hl];exact C)
  exact⟨ds,by simpa using h,u⟩)
 refine⟨ds,h,?_⟩;simp only[execOp,aDc];simp[u]
theorem dM{α:Type}{e:Enc α}{U E:TypeId}{len:Nat}{z:Value}{ps:List (Nat×Operand)}{zs:List α}(hU:∀w,(underlying U).run F.P w= .ok (.slice E) w)(hS:∀w,(sizeOf E).run F.P w= .ok e.n w)(hz:∀w,(zeroValue E).run F.P w= .ok z w)
  (hle:Nat.ble (len*e.n) 16777216=true) (hl:ps.length=len) (hl':zs.length=len) (hb:Nat.ble len 16777216=true) (he:Elems σ e 0 ps zs):JO F ⟨d,.buildSlice U len ps.toArray,ty,p,af,gd⟩ σ (.v (Enc.sl e) zs) []:=by
 intro ρ S a w K;obtain⟨u,C,D⟩:=Qk (d:=d) (ty:=ty) (p:=p) (af:=af) (gd:=gd) hU hS hz hle hl he K;have A:=kP w (.cells u.toArray E);have B:Ext S (Un S ρ []) w (w.alloc (.cells u.toArray E)):=qL A fun k _ h=>by
  rcases h with h |⟨i,G,h,_⟩
  ·exact h
  ·simp[aW] at h
 refine OpWp.value D ⟨ρ,fun _ _=>rfl,A,?_,⟨fun _ _ h=>by simp[aW] at h,fun _ _ _ h=>by simp[aW] at h,fun _ _ _ _ _ h=>by simp[aW] at h⟩⟩;simp only[Slot.ok];have hb:=aAd hb;refine rJ.2 ⟨_,len,by rw[hl'],⟨by omega,by omega⟩,.inr ⟨w.heap.size,0,u,rfl,by simp,?_,Ix w u E,Enc.okL_mono C B⟩⟩;rintro (h |⟨i,G,h,_⟩)
 ·have:=K.low _ h;omega
 ·simp[aW] at h
theorem qM{α:Type}{e:Enc α}{U E:TypeId}{len:Nat}{z:Value}{ps:List (Nat×Operand)}{zs:List α}(i:Nat)(hU:∀w,(underlying U).run F.P w= .ok (.slice E) w)(hS:∀w,(sizeOf E).run F.P w= .ok e.n w)(hz:∀w,(zeroValue E).run F.P w= .ok z w)
  (hle:Nat.ble (len*e.n) 16777216=true) (hl:ps.length=len) (hl':zs.length=len) (hb:Nat.ble len 16777216=true) (he:Elems σ e 0 ps zs):JO F ⟨d,.buildSlice U len ps.toArray,ty,p,af,gd⟩ σ (.ref i) [(i,.arr E e zs)]:=by
 intro ρ S a w K;obtain⟨B,u,C⟩:=Qk (d:=d) (ty:=ty) (p:=p) (af:=af) (gd:=gd) hU hS hz hle hl he K;have hb:=aAd hb;refine OpWp.value C (yQ (.slice (some ⟨w.heap.size,0,none⟩) len len) (kP _ _) rfl ?_ ?_ ?_)
 ·intro b h;simp only[blk,aAk] at h;subst h;exact⟨aAi _,by simp⟩
 ·intro A ρ' h _;refine .inr ⟨w.heap.size,len,[],B,[],by rw[hl'];rfl,?_,Enc.okL_mono u (Qe (kP _ _) h),by omega,?_,by omega⟩
  ·rw[heap_alloc_new];simp
  ·have:=cA u;rw[hl'] at this;simp[this]
 ·intro A ρ' _ hi _;simp only[Slot.ok];exact⟨by rw[hi];exact .inl ⟨_,_,_,rfl⟩,hi.symm⟩
def mk{α:Type}(n:Int)(z:α):Option (List α):=if 0<=n/\n<=4294967296 then some (List.replicate n.toNat z) else none
theorem Ym{α:Type}{n:Int}{z:α}{zs:List α}(h:mk n z=some zs):0<=n/\n<=4294967296/\zs=List.replicate n.toNat z:=by
 unfold mk at h;split at h
 ·rename_i u;exact⟨u.1,u.2,by cases h;rfl⟩
 ·cases h
theorem EG{α:Type}{e:Enc α}{z:α}{zc:Array Value}(hz:∀S w,e.ok z S w zc.toList)(m:Nat)(S:Nat->Prop)(w:World):e.okL (List.replicate m z) S w (madeCells zc (m*e.n)).toList:=by
 have E:zc.size=e.n:=by have:=e.len (hz S w);simpa using this
 have C:(madeCells zc (m*e.n)).toList=(List.replicate m zc.toList).flatten:=by
  induction m with
  |zero=>simp[madeCells,Array.range_zero']
  |succ m B=>
   rw[List.replicate_succ',List.flatten_append,<-B];apply aCb;intro i;simp only[madeCells,Array.toList_map,List.getElem?_append,aBl,aBp,aA3,Array.size_range,Array.getElem?_toList];by_cases D:i<m*e.n
   ·have h:i<(m+1)*e.n:=by rw[aBe];omega
    simp[D,h]
   ·rw[aAj D];by_cases h:i<(m+1)*e.n
    ·have u:i - m*e.n<zc.size:=by rw[aBe,aCl] at h;omega
     have A:i % zc.size=i - m*e.n:=by
      have G:zc.size*m=m*e.n:=by rw[E,aEc e.n m]
      have F:i % zc.size=((i - m*e.n)+zc.size*m) % zc.size:=by congr 1;omega
      rw[F,Nat.add_mul_mod_self_left,aA2 u]
     simp[h,A,u]
    ·have u:zc.size<=i - m*e.n:=by rw[aBe,aCl] at h;omega
     have A:(Array.range ((m+1)*e.n))[i]? =none:=by simp;omega
     simp[A,u]
 rw[C];clear C
 induction m with
 |zero=>rfl
 |succ m B=>rw[aDr,aDr,aC1];exact⟨_,_,rfl,hz S w,B⟩
theorem NG{α:Type}{e:Enc α}{z:α}{zs:List α}{U E:TypeId}{ti:TypeInfo}{zv:Value}{k k':IntKind}{n:Int}{ρ S a w}(hm:mk n z=some zs)(hx:cK σ.g x=some (.v (Enc.int k) n))(hy:cK σ.g y=some (.v (Enc.int k') n))(hU:∀w,(underlying U).run F.P w= .ok (.slice E) w)
  (hI:∀w,(typeInfo E).run F.P w= .ok ti w) (hS:∀w,(sizeOf E).run F.P w= .ok e.n w) (hz:ti.zero=some zv) (hby:Nat.ble ti.bytes 4096=true) (K:Know σ (Op.makeSlice U x y).operands ρ S a w):
  (execOp a.eval ⟨d,.makeSlice U x y,ty,p,af,gd⟩).run F.P w= .ok (.value (.slice (some ⟨w.heap.size,0,none⟩) n.toNat n.toNat)) (w.alloc (.cells (madeCells zv.cells (n.toNat*e.n)).toList.toArray E)):=by
 obtain⟨h,A,rfl⟩:=Ym hm;have hx:=(fB K (x:=x) (by simp[Op.operands]) hx).1;have hy:=(fB K (x:=y) (by simp[Op.operands]) hy).1;have hby:=aAd hby;have u:=Jw hI hS
 have:=run_make (P:=F.P) w U E ti zv (qA hU) (sY hI) hz k k' n n h (aDg _) (by
  have:(ti.bytes:Int)*n<=4096*4294967296:=Int.mul_le_mul (by omega) A h (by omega)
  omega) (by omega)
 rw[u] at this;simp[execOp,hx,hy,this]
theorem Vy{α:Type}{e:Enc α}{z:α}{zs:List α}{U E:TypeId}{ti:TypeInfo}{zv:Value}{k k':IntKind}{n:Int}(i:Nat)(hm:Sw.mk n z=some zs)(hx:cK σ.g x=some (.v (Enc.int k) n))(hy:cK σ.g y=some (.v (Enc.int k') n))(hU:∀w,(underlying U).run F.P w= .ok (.slice E) w)
  (hI:∀w,(typeInfo E).run F.P w= .ok ti w) (hS:∀w,(sizeOf E).run F.P w= .ok e.n w) (hz:ti.zero=some zv) (hby:Nat.ble ti.bytes 4096=true) (hzv:∀S w,e.ok z S w zv.cells.toList):JO F ⟨d,.makeSlice U x y,ty,p,af,gd⟩ σ (.ref i) [(i,.arr E e zs)]:=by
 intro ρ S a w K;have u:=NG (d:=d) (ty:=ty) (p:=p) (af:=af) (gd:=gd) hm hx hy hU hI hS hz hby K;obtain⟨B,C,rfl⟩:=Ym hm;refine OpWp.value u (yQ (.slice (some ⟨w.heap.size,0,none⟩) n.toNat n.toNat) (kP _ _) rfl ?_ ?_ ?_)
 ·intro b h;simp only[blk,aAk] at h;subst h;exact⟨aAi _,by simp⟩
 ·intro A ρ' h _;refine .inr ⟨w.heap.size,n.toNat,[],(madeCells zv.cells (n.toNat*e.n)).toList,[],by simp[LV.of],?_,EG hzv _ _ _,by simp,?_,by simp;omega⟩
  ·rw[heap_alloc_new];simp
  ·simp[size_madeCells]
 ·intro A ρ' _ hi _;simp only[Slot.ok];exact⟨by rw[hi];exact .inl ⟨_,_,_,rfl⟩,hi.symm⟩
end
end Go.Sw
namespace Go.Sw
open Go Go.RowKit
def EqE{α:Type}(n:Nat)(P:Program)(T:TypeId)(e:Enc α):Prop:=∀d,n<=d->∀(w:World) (S S':Nat->Prop) (w1 w2:World) (x y:α) (cs ds:List Value),e.ok x S w1 cs->e.ok y S' w2 ds->
 ∃r,(Op.equalIn d T (e.pk cs) (e.pk ds)).run P w= .ok r w/\(r=true↔x=y)
theorem EqE.int{P:Program}{T:TypeId}{k k':IntKind}(h:P.underlying T=some (.int k')):EqE 1 P T (Enc.int k):=by
 intro d A w S B C D x y E F u z;obtain⟨d,rfl⟩:∃d',d=d'+1:=⟨d - 1,by omega⟩
 rw[u.1,z.1];exact⟨x==y,run_equalIn_int w d T k k' x y h,by simp⟩
theorem Vz{α:Type}{P:Program}{e:Enc α}{x:α}{S w w0}{a c b:List Value}{T:TypeId}{off:Nat}(ho:e.ok x S w0 c)(ha:a.length=off)(hA:∀w,(isAgg T).run P w= .ok e.agg w)(hS:∀w,(sizeOf T).run P w= .ok e.n w):
  (part T (a++(c++b)).toArray off).run P w= .ok (e.pk c) w:=by
 have h:=e.len ho;unfold part;simp only[Sem.run_bind,hA,Result.andThen_ok];cases hag:e.agg with
 |true=>
  simp only[aBb,Sem.run_bind,hS,Result.andThen_ok,Sem.run_pure,Enc.pk,hag];congr 2;simp only[List.extract_toArray,List.extract_eq_take_drop];rw[<-ha,aB5];have:a.length+e.n - a.length=c.length:=by omega
  rw[this,aCn]
 |false=>
  rw[e.one hag] at h;obtain⟨v,rfl⟩:=aCf.1 h;have:(a++([v]++b)).toArray[off]? =some v:=by simp[<-ha]
  simp only[aAw,aA4,this,Sem.run_pure,Enc.pk,hag];rfl
theorem Og{α:Type}{n d:Nat}{P:Program}{E:TypeId}{e:Enc α}(hd:n<=d)(he:EqE n P E e)(hA:∀w,(isAgg E).run P w= .ok e.agg w)(hS:∀w,(sizeOf E).run P w= .ok e.n w){S S':Nat->Prop}{w1 w2:World}:
  ∀(xs ys:List α) (k:Nat) (pre pre' cs ds:List Value) (w:World),xs.length=ys.length->pre.length=k*e.n->pre'.length=k*e.n->e.okL xs S w1 cs->e.okL ys S' w2 ds->
   ∃r,(Op.eqItems d E e.n (pre++cs).toArray (pre'++ds).toArray (List.range' k xs.length)).run P w= .ok r w/\(r=true↔xs=ys)
 | [],ys,k,pre,pre',cs,ds,w,u,_,_,_,_=>by
  have:ys=[]:=aAu (by simpa using u.symm);subst this;exact⟨true,by simp[Op.eqItems],by simp⟩
 |x::xs,[],k,pre,pre',cs,ds,w,u,_,_,_,_=>by simp at u
 |x::xs,y::ys,k,pre,pre',cs,ds,w,u,C,D,⟨c,K,L,z,M⟩,⟨q,N,O,A,Q⟩=>by
  subst L;subst O;obtain⟨r,F,B⟩:=he d hd w S S' w1 w2 x y c q z A;obtain⟨G,H,I⟩:=Og hd he hA hS xs ys (k+1) (pre++c) (pre'++q) K N w (by simpa using u) (by rw[sM,C,e.len z,aBe,aCl]) (by rw[sM,D,e.len A,aBe,aCl]) M Q;simp only[aAq,List.range'_succ,Op.eqItems,Sem.run_bind,Vz (P:=P) (w:=w) z C hA hS,Vz (P:=P) (w:=w) A D hA hS,Result.andThen_ok,F];cases r
  ·refine⟨false,by simp,?_⟩;simp only[aAw,false_iff,aEw,not_and];intro h;exact absurd (B.2 h) (by simp)
  ·refine⟨G,by simpa using H,?_⟩;rw[I];simp[B.1 rfl]
theorem EqE.arr{α:Type}{n m:Nat}{P:Program}{T E:TypeId}{e:Enc α}(hT:∀w,(underlying T).run P w= .ok (.array m E) w)(hI:∀w,(sizeOf E).run P w= .ok e.n w)(hA:∀w,(isAgg E).run P w= .ok e.agg w)(he:EqE n P E e):EqE (n+1) P T (Enc.arr m e):=by
 intro d H w S I K L x y u z h A;obtain⟨d,rfl⟩:∃d',d=d'+1:=⟨d - 1,by omega⟩
 obtain⟨i,B,D⟩:∃i,P.info? E=some i/\i.size=e.n:=by
  have:=hI default;unfold sizeOf typeInfo at this;simp only[Sem.run_bind,run_program,Result.andThen_ok] at this;cases hq:P.info? E with
  |none=>rw[hq] at this;simp at this
  |some i=>rw[hq] at this;simp at this;exact⟨i,rfl,this⟩
 have C:P.cellsOf E=e.n:=by unfold Program.cellsOf;rw[B];exact D
 obtain⟨r,F,G⟩:=Og (d:=d) (by omega) he hA hI x y 0 [] [] u z w (by rw[h.1,A.1]) (by simp) (by simp) h.2 A.2;refine⟨r,?_,G⟩;have:=run_equalIn_array (w:=w) d u.toArray z.toArray (qA hT) B;simp only[Enc.pk,show (Enc.arr m e).agg=true from rfl,aBb];rw[this,C,List.range_eq_range',<-h.1];simpa using F
section
variable {F:Frm}{σ:AS}{d:Option Tmp}{ty:TypeId}{p:String}{af:Array Edge}{gd:Option (Nat×Bool)}{x y:Operand}
theorem Yn{α:Type}[DecidableEq α]{n:Nat}{e:Enc α}{o:BinOp}{T T':TypeId}{z z':α}{b:Bool}{ρ S a w}(ho:(o= .eql/\b=decide (z=z'))\/(o= .neq/\b= !decide (z=z')))(he:EqE n F.P T e)(hn:Nat.ble n 10000=true)(ha:e.agg=true)(hg:F.P.eqGuardType F.P.depth T=false)
  (hx:cK σ.g x=some (.v e z)) (hy:cK σ.g y=some (.v e z')) (K:Know σ (Op.binOp o T x y T').operands ρ S a w):(execOp a.eval ⟨d,.binOp o T x y T',ty,p,af,gd⟩).run F.P w= .ok (.value (.bool b)) w:=by
 have u:=K.slot x (by simp[Op.operands]) _ hx;have A:=K.slot y (by simp[Op.operands]) _ hy;simp only[Slot.ok] at u A;obtain⟨H,I,B⟩:=u;obtain⟨L,M,C⟩:=A;obtain⟨r,D,E⟩:=he 10000 (aAd hn) w S S w w z z' H L I M;have G:r=decide (z=z'):=by
  cases r
  ·symm;simp;intro h;exact absurd (E.2 h) (by simp)
  ·symm;simp;exact E.1 rfl
 simp only[Enc.pk,ha,aBb] at B C D;refine Vx (r:=r) (by rw[G];exact ho) B C (by intros;simp) (by intros;simp) (by intros;simp) (by intros;simp) ?_ D;exact run_eqGuard_agg (w:=w) o T x y _ _ hg
theorem Wa{α:Type}[DecidableEq α]{n:Nat}{e:Enc α}{T T':TypeId}{z z':α}(he:EqE n F.P T e)(hn:Nat.ble n 10000=true)(ha:e.agg=true)(hg:F.P.eqGuardType F.P.depth T=false)
  (hx:cK σ.g x=some (.v e z)) (hy:cK σ.g y=some (.v e z')):JO F ⟨d,.binOp .eql T x y T',ty,p,af,gd⟩ σ (.v Enc.bool (decide (z=z'))) []:=
 fun ρ S _ w K=>OpWp.value (w':=w) (Yn (.inl ⟨rfl,rfl⟩) he hn ha hg hx hy K) (Res.same (mS _ ρ S w))
theorem Ql{α:Type}[DecidableEq α]{n:Nat}{e:Enc α}{T T':TypeId}{z z':α}(he:EqE n F.P T e)(hn:Nat.ble n 10000=true)(ha:e.agg=true)(hg:F.P.eqGuardType F.P.depth T=false)
  (hx:cK σ.g x=some (.v e z)) (hy:cK σ.g y=some (.v e z')):JO F ⟨d,.binOp .neq T x y T',ty,p,af,gd⟩ σ (.v Enc.bool (!decide (z=z'))) []:=
 fun ρ S _ w K=>OpWp.value (w':=w) (Yn (.inr ⟨rfl,rfl⟩) he hn ha hg hx hy K) (Res.same (mS _ ρ S w))
end
end Go.Sw
namespace Go.Sw
open Go Go.RowKit
def fI:Nat:=1125899906842624
inductive Ex (α β:Type) where
 |brk (x:α)
 |ret (r:β)
def lp{α β γ:Type}(step:α->Option (Step α (Ex β γ)))(x:α)(k:β->Option γ):Option γ:=
 match loop step fI x with
 |none=>none
 |some (.brk y)=>k y
 |some (.ret z)=>some z
def jp{β γ:Type}(k:β->Option γ)(body:(β->Option γ)->Option γ):Option γ:=body k
theorem bX{α β γ:Type}{step:α->Option (Step α (Ex β γ))}{x:α}{k:β->Option γ}{r:γ}(h:lp step x k=some r):
  ∃o,loop step fI x=some o/\(∀y,o= .brk y->k y=some r)/\(∀z,o= .ret z->z=r):=by
 unfold lp at h;cases hl:loop step fI x with
 |none=>rw[hl] at h;cases h
 |some o=>
  rw[hl] at h;refine⟨o,rfl,?_,?_⟩
  ·rintro y rfl;exact h
  ·rintro z rfl;exact pT h
theorem gC{β γ:Type}{k:β->Option γ}{body:(β->Option γ)->Option γ}{r:γ}(h:jp k body=some r):∃K,K=k/\body K=some r:=⟨k,rfl,h⟩
theorem jP{α:Type}{c:Bool}{x y:Option α}{r:α}(hc:c=true)(h:(bif c then x else y)=some r):x=some r:=by subst hc;exact h
theorem jQ{α:Type}{c:Bool}{x y:Option α}{r:α}(hc:c=false)(h:(bif c then x else y)=some r):y=some r:=by subst hc;exact h
theorem aB{α β:Type}{x:Option α}{f:α->Option β}{r:β}(h:x.bind f=some r):∃a,x=some a/\f a=some r:=Option.bind_eq_some_iff.1 h
def rn:List (Nat×Nat)->Nat->Nat
 | [],i=>i
 | (a,b)::r,i=>bif Nat.beq a i then b else rn r i
section
variable {F:Frm}{cs:List Code}{σ σ':AS}{Q:Exit->Act->World->Prop}{α β γ:Type}
theorem uN{c:Tmp}{x y:Code}{b:Bool}(hb:lk σ.g c=some (.v Enc.bool b))(hc:b=true)(ht:W F (x::cs) σ Q):W F (.cond (.tmp c) x y::cs) σ Q:=by
 subst hc;exact Eo hb (fun _=>ht) (fun h=>by cases h)
theorem zY{c:Tmp}{x y:Code}{b:Bool}(hb:lk σ.g c=some (.v Enc.bool b))(hc:b=false)(ht:W F (y::cs) σ Q):W F (.cond (.tmp c) x y::cs) σ Q:=by
 subst hc;exact Eo hb (fun h=>by cases h) (fun _=>ht)
def LB(F:Frm)(id:Nat)(σs:α->AS)(σx:β->AS)(o:Ex β γ)(Q:Exit->Act->World->Prop):Step α (Ex β γ)->Exit->Act->World->Prop
 | .next y,.normal,a,w=>St F (σs y) a w
 | .next _,_,_,_=>False
 | .done (.brk x),.exit i,a,w=>i=id/\(o= .brk x->St F (σx x) a w)
 | .done (.brk _),_,_,_=>False
 | .done (.ret _),.normal,_,_=>False
 | .done (.ret z),.exit i,a,w=>i≠id/\(o= .ret z->Q (.exit i) a w)
 | .done (.ret z),e,a,w=>o= .ret z->Q e a w
theorem jH{id:Nat}{body:Code}{σs:α->AS}{step:α->Option (Step α (Ex β γ))}{x:α}{o:Ex β γ}(σx:β->AS)(hm:Sw.loop step fI x=some o)(h0:Sub F σ (σs x))
  (hk:∀y,o= .brk y->W F cs (σx y) Q) (h:∀y r,step y=some r->W F [body] (σs y) (LB F id σs σx o Q r)):W F (.block id (.loop body)::cs) σ Q:=by
 refine bF (NA (b:=o) hm h0 fun y r B a w C=>?_);refine wpIn_mono (h y r B a w C) ?_;intro e a w u;cases r with
 |next z=>cases e<;>simp only[LB,LQ,Exit.then,run] at u ⊢<;>exact u
 |done b=>
  cases b with
  |brk z=>
   cases e<;>simp only[LB,LQ,Exit.then,run] at u ⊢;intro A;obtain⟨rfl,u⟩:=u;simp only[Exit.inBlock,aBb];exact hk z A.symm a w (u A.symm)
  |ret z=>
   cases e<;>simp only[LB,LQ,Exit.then,run] at u ⊢<;>intro A<;>first
    | (obtain⟨D,u⟩:=u;simp only[Exit.inBlock,aAj D];exact u A.symm)
    |exact u A.symm
theorem cE{id:Nat}{σs:α->AS}{σx:β->AS}{o:Ex β γ}{y:α}(h:Sub F σ (σs y)):W F [] σ (LB F id σs σx o Q (.next y)):=fun a w u=>h a w u
theorem cW{id:Nat}{σs:α->AS}{σx:β->AS}{o:Ex β γ}{y:β}(h:Sub F σ (σx y)):XQ F σ (LB F id σs σx o Q (.done (.brk y))) (.exit id):=fun a w u=>⟨rfl,fun _=>h a w u⟩
theorem gD{id:Nat}{σs:α->AS}{σx:β->AS}{o:Ex β γ}{z:γ}(h:o= .ret z->XQ F σ Q .ret):XQ F σ (LB F id σs σx o Q (.done (.ret z))) .ret:=fun a w u A=>h A a w u
def JQ(F:Frm)(σx:β->AS)(P:β->Prop)(Q:Exit->Act->World->Prop):Exit->Act->World->Prop
 | .normal,a,w=>∃x,P x/\St F (σx x) a w
 |e,a,w=>Q e a w
theorem uT{c:Tmp}{x y:Code}{b:Bool}(σx:β->AS)(P:β->Prop)(hb:lk σ.g c=some (.v Enc.bool b))(hk:∀x,P x->W F cs (σx x) Q)(ht:b=true->W F [x] σ (JQ F σx P Q))(hf:b=false->W F [y] σ (JQ F σx P Q)):W F (.cond (.tmp c) x y::cs) σ Q:=by
 refine Eo hb (fun u a w A=>?_) (fun u a w A=>?_)
 ·refine wpIn_mono (ht u a w A) ?_;intro e a w h;cases e<;>simp only[Exit.then,run,JQ] at h ⊢<;>first | exact h | (obtain⟨z,B,C⟩:=h;exact hk z B a w C)
 ·refine wpIn_mono (hf u a w A) ?_;intro e a w h;cases e<;>simp only[Exit.then,run,JQ] at h ⊢<;>first | exact h | (obtain⟨z,B,C⟩:=h;exact hk z B a w C)
theorem cF{σx:β->AS}{P:β->Prop}{z:β}(hz:P z)(h:Sub F σ (σx z)):W F [] σ (JQ F σx P Q):=fun a w u=>⟨z,hz,h a w u⟩
theorem Fz{σx:β->AS}{P:β->Prop}(h:XQ F σ Q .ret):XQ F σ (JQ F σx P Q) .ret:=h
theorem J.fin{ops:Array Oper}(h:Sub F σ σ'):J F ops [] σ σ':=fun _ _ a w u z=>z a w (h a w u)
end
theorem dD{P:Program}{N:Nat}{S:Nat->Prop}{w:World}:∀k,¬(Frm.R ⟨P,N,S,w,fun _=>False,none,[]⟩ k):=fun _ h=>h
end Go.Sw
namespace Go.Sw
open Go Go.RowKit
section
variable {F:Frm}{cs:List Code}{σ σ':AS}{Q:Exit->Act->World->Prop}{α β γ:Type}{ops:Array Oper}{os:List Oper}
theorem GK.met{g:List (Nat×Slot)}{o:Oper}{j:Nat}{want:Bool}(t:Tmp){x:Bool}(h:o.guard= .some (j,want))(ht:(ops[j]?).bind (·.dst)= .some t)
  (hx:lk g t= .some (.v Enc.bool x)) (hb:x=want):GK ops g o true:=GK.some t x true h ht hx (by subst hb;simp)
theorem GK.unmet{g:List (Nat×Slot)}{o:Oper}{j:Nat}{want:Bool}(t:Tmp){x:Bool}(h:o.guard= .some (j,want))(ht:(ops[j]?).bind (·.dst)= .some t)
  (hx:lk g t= .some (.v Enc.bool x)) (hb:x= !want):GK ops g o false:=GK.some t x false h ht hx (by subst hb;simp)
theorem Hp{c:Code}(h:W F cs σ' Q->W F (c::cs) σ Q)(k:W F cs σ' Q):W F (c::cs) σ Q:=h k
theorem bN{e:Exit}(h:Sub F σ σ')(k:XQ F σ' Q e):XQ F σ Q e:=fun a w u=>k a w (h a w u)
def BQ(F:Frm)(id:Nat)(σx:β->AS)(P:β->Prop)(Q:Exit->Act->World->Prop):Exit->Act->World->Prop
 | .normal,a,w=>∃x,P x/\St F (σx x) a w
 | .exit i,a,w=>if i=id then∃x,P x/\St F (σx x) a w else Q (.exit i) a w
 |e,a,w=>Q e a w
theorem RX{id:Nat}{body:Code}(σx:β->AS)(P:β->Prop)(hk:∀x,P x->W F cs (σx x) Q)(h:W F [body] σ (BQ F id σx P Q)):W F (.block id body::cs) σ Q:=by
 refine bF fun a w D=>wpIn_mono (h a w D) ?_;intro e a w u;cases e<;>simp only[Exit.then,run,BQ,Exit.inBlock] at u ⊢<;>first
  |exact u
  | (obtain⟨z,B,C⟩:=u;exact hk z B a w C)
  | (
    split at u
    ·rename_i A;rw[aAn A];obtain⟨z,B,C⟩:=u;exact hk z B a w C
    ·rename_i A;rw[aAj A];exact u)
theorem JI{id:Nat}{σx:β->AS}{P:β->Prop}{z:β}(hz:P z)(h:Sub F σ (σx z)):W F [] σ (BQ F id σx P Q):=fun a w u=>⟨z,hz,h a w u⟩
theorem JJ{id:Nat}{σx:β->AS}{P:β->Prop}{z:β}(hz:P z)(h:Sub F σ (σx z)):XQ F σ (BQ F id σx P Q) (.exit id):=fun a w u=>by
 simp only[BQ,aBb];exact⟨z,hz,h a w u⟩
end
section
variable {F:Frm}{σ:AS}{pb:Option Nat}{s:Slot}{d:Option Tmp}{ty:TypeId}{p:String}{af:Array Edge}{gd:Option (Nat×Bool)}{x y c:Operand}
theorem Eh{b:Bool}(hb:b=true)(hc:cK σ.g c=some (.v Enc.bool b))(hx:cK σ.g x=some s):JO F ⟨d,.pick c x y,ty,p,af,gd⟩ σ s []:=by subst hb;exact DW hc hx
theorem sK{b:Bool}(hb:b=false)(hc:cK σ.g c=some (.v Enc.bool b))(hy:cK σ.g y=some s):JO F ⟨d,.pick c x y,ty,p,af,gd⟩ σ s []:=by subst hb;exact DX hc hy
def MN(k k':IntKind):Bool:=decide (k'.min<=k.min) && decide (k.max<=k'.max)
theorem zZ{k:IntKind}{n:Int}(h:Db k n):k.wrap n=n:=by
 unfold Db at h;cases k<;>simp[IntKind.min,IntKind.max,IntKind.signed,IntKind.bits] at h<;>simp[IntKind.wrap,IntKind.signed,IntKind.bits]<;>omega
theorem lM{A B:TypeId}{da:TypeDesc}{k k':IntKind}{n:Int}(ha:∀w,(underlying A).run F.P w= .ok da w)(hb:∀w,(underlying B).run F.P w= .ok (.int k') w)(hx:cK σ.g x=some (.v (Enc.int k) n))(hw:MN k k'=true):
  JO F ⟨d,.convert A B x,ty,p,af,gd⟩ σ (.v (Enc.int k') n) []:=by
 intro ρ S a w K;have u:=(fB K (x:=x) (by simp[Op.operands]) hx).2;have h:=Yh (ty:=ty) (p:=p) (d:=d) (af:=af) (gd:=gd) ha hb hx ρ S a w K;have:k'.wrap n=n:=by
  refine zZ ?_;simp[MN] at hw;unfold Db at*;omega
 rw[this] at h;exact h
def nz(n:Int):Option Unit:=if n=0 then none else some ()
theorem Yo{n:Int}{u:Unit}(h:nz n=some u):n≠0:=by unfold nz at h;split at h<;>simp_all
def nn(n:Int):Option Unit:=if 0<=n then some () else none
theorem Yp{n:Int}{u:Unit}(h:nn n=some u):0<=n:=by unfold nn at h;split at h<;>simp_all
theorem Wb{c:Nat}{ρ:Nat->LV}{a:Act}{w:World}(hc:Core F σ.d ρ w)(hs:∀t s,lk σ.g t=some s->s.ok ρ (Un F.S0 ρ σ.d) w (a.tmps.getD t undef)){i off:Nat}{T:TypeId}{l:List Slot}(hx:lk σ.g c=some (.ptr i off))(he:aW σ.d i=some (.box T l pb)):
  ∃b cs,a.tmps.getD c undef= .pointer (some ⟨b,off,none⟩)/\w.heap[b]? =some (.cells cs.toArray T (0,0))/\aZ ρ (Un F.S0 ρ σ.d) w l cs:=by
 obtain⟨b,cs,_,h,u,z⟩:=yS (x:= .tmp c) (xs:= #[.tmp c]) (bT hc hs #[.tmp c]) (by simp) hx he;exact⟨b,cs,h,u,z⟩
theorem aS{α:Type}{e:Enc α}{z:α}{T U:TypeId}{l:List Slot}{i c:Nat}(hx:lk σ.g c=some (.ptr i 0))(he:aW σ.d i=some (.box T l pb))(hl:Spl l e z)
  (hA:∀w,(isAgg U).run F.P w= .ok e.agg w) (hS:∀w,(sizeOf U).run F.P w= .ok e.n w):RV F σ (.cell c U) (.v e z):=by
 intro ρ a w hc hs;obtain⟨b,h,A,B,C⟩:=Wb hc hs hx he;have u:=(hl ρ _ w h).1 C;refine⟨e.pk h,?_,by simp only[Slot.ok];exact⟨h,u,rfl⟩⟩;have:=Es (P:=F.P) (MemAt.of_heap B) u hA hS;simp[vN,A,asAddr,this]
theorem Et{T U:TypeId}{l:List Slot}{i c n:Nat}(hx:lk σ.g c=some (.ptr i 0))(he:aW σ.d i=some (.box T l pb))(hn:(l.map Slot.sz).sum=n)
  (hA:∀w,(isAgg U).run F.P w= .ok true w) (hS:∀w,(sizeOf U).run F.P w= .ok n w):RV F σ (.cell c U) (.agg l):=by
 intro ρ a w hc hs;obtain⟨b,h,B,z,u⟩:=Wb hc hs hx he;have A:h.length=n:=by
  rw[<-hn];clear hn hS hx he z
  induction l generalizing h with
  |nil=>simp only[aZ] at u;simp[u]
  |cons t l E=>
   simp only[aZ] at u;obtain⟨c,d,rfl,C,D⟩:=u;rw[sM,mT C,E d D];simp
 refine⟨.agg h.toArray,?_,by simp only[Slot.ok];exact⟨h,rfl,u⟩⟩;have:(loadVar U ⟨b,0,none⟩).run F.P w= .ok (.agg h.toArray) w:=by
  unfold loadVar;simp only[Sem.run_bind,hA,Result.andThen_ok,aBb,hS];rw[<-A,run_loadCells_list w _ h (MemAt.of_heap z).cell];simp
 simp[vN,B,asAddr,this]
theorem bY{T U:TypeId}{l:List Slot}{i c:Nat}(hx:lk σ.g c=some (.ptr i 0))(he:aW σ.d i=some (.box T l pb))(ho:mP l 0=some s)
  (hA:∀w,(isAgg U).run F.P w= .ok s.ag w) (hS:∀w,(sizeOf U).run F.P w= .ok s.sz w):RV F σ (.cell c U) s:=by
 intro ρ a w hc hs;obtain⟨b,H,B,C,D⟩:=Wb hc hs hx he;obtain⟨E,c',I,rfl,G,z,_⟩:=tZ ho D;have h:MemAt w b E.length c':=by have:=(MemAt.of_heap C).sub;simpa using this
 have u:=mT z;refine⟨if s.ag then .agg c'.toArray else c'.headD undef,?_,Yj z⟩;have:(loadVar U ⟨b,0,none⟩).run F.P w= .ok (if s.ag then .agg c'.toArray else c'.headD undef) w:=by
  rw[<-G];unfold loadVar;simp only[Sem.run_bind,hA,Result.andThen_ok];cases ha:s.ag with
  |true=>
   simp only[aBb,Sem.run_bind,hS,Result.andThen_ok];rw[<-u,run_loadCells_list w _ c' h.cell];simp
  |false=>
   have A:c'.length=1:=by
    rw[u];cases s<;>simp only[Slot.ag,Slot.sz] at ha ⊢;exact Enc.one _ ha
   obtain⟨v,rfl⟩:=aCf.1 A;have:=h.cell 0 v rfl;simp[Addr.add] at this;simp[this]
 simp[vN,B,asAddr,this]
end
end Go.Sw
namespace Go.Sw
open Go Go.RowKit
def eV{α β:Type}[DecidableEq α]:List (α×β)->α->Option β
 | [],_=>none
 | (a,b)::m,k=>if a=k then some b else eV m k
def Ga{α β:Type}[DecidableEq α](m:List (α×β))(k:α)(v:β):Option (List (α×β)):=match eV m k with | none=>some (m++[(k,v)]) | some _=>none
theorem Oh{α β:Type}[DecidableEq α]{m m':List (α×β)}{k:α}{v:β}(h:Ga m k v=some m'):eV m k=none/\m'=m++[(k,v)]:=by
 unfold Ga at h;cases hm:eV m k with
 |none=>rw[hm] at h;exact⟨rfl,by simpa using h.symm⟩
 |some b=>rw[hm] at h;cases h
def KeyE{α:Type}(n:Nat)(P:Program)(T:TypeId)(e:Enc α):Prop:=∀d,n<=d->∀(em:Bool) (w:World) (S:Nat->Prop) (w1:World) (x:α) (cs:List Value),e.ok x S w1 cs->(Instr.checkKey em d T (e.pk cs)).run P w= .ok () w
theorem KeyE.int{P:Program}{T:TypeId}{k k':IntKind}(h:∀w,(underlying T).run P w= .ok (.int k') w):KeyE 1 P T (Enc.int k):=by
 intro d z A w S B x C u;obtain⟨d,rfl⟩:∃d',d=d'+1:=⟨d - 1,by omega⟩
 rw[u.1];simp[Instr.checkKey,h,Enc.pk,Enc.int]
theorem Kx{α:Type}{n d:Nat}{P:Program}{E:TypeId}{e:Enc α}{em:Bool}(hd:n<=d)(he:KeyE n P E e)(hA:∀w,(isAgg E).run P w= .ok e.agg w)(hS:∀w,(sizeOf E).run P w= .ok e.n w){S:Nat->Prop}{w1:World}:
  ∀(xs:List α) (k:Nat) (pre cs:List Value) (w:World),pre.length=k*e.n->e.okL xs S w1 cs->
   (forIn (List.range' k xs.length) PUnit.unit fun i (_:PUnit)=>do
    let s<-sizeOf E
    let v<-part E (pre++cs).toArray (i*s)
    Instr.checkKey em d E v
    pure (ForInStep.yield PUnit.unit):Sem PUnit).run P w= .ok () w
 | [],k,pre,cs,w,_,_=>by simp
 |x::xs,k,pre,cs,w,z,⟨c,A,C,h,D⟩=>by
  subst C;have u:=Kx (em:=em) hd he hA hS xs (k+1) (pre++c) A w (by rw[sM,z,e.len h,aBe,aCl]) D;have B:=Vz (P:=P) (w:=w) (b:=A) h z hA hS;rw[aAm] at u;simp only[aAq,List.range'_succ,List.forIn_cons,Sem.run_bind,hS,Result.andThen_ok,B,he d hd em w S w1 x c h];simpa using u
theorem KeyE.arr{α:Type}{n m:Nat}{P:Program}{T E:TypeId}{e:Enc α}(hT:∀w,(underlying T).run P w= .ok (.array m E) w)(hS:∀w,(sizeOf E).run P w= .ok e.n w)(hA:∀w,(isAgg E).run P w= .ok e.agg w)(he:KeyE n P E e):KeyE (n+1) P T (Enc.arr m e):=by
 intro d A em w S B x z u;obtain⟨d,rfl⟩:∃d',d=d'+1:=⟨d - 1,by omega⟩
 have h:=Kx (em:=em) (d:=d) (by omega) he hA hS x 0 [] z w (by simp) u.2;rw[u.1] at h;simp only[Instr.checkKey,Sem.run_bind,hT,Result.andThen_ok,Enc.pk,Enc.arr,aBb];simp[Std.Legacy.Range.forIn_eq_forIn_range',Std.Legacy.Range.size] at h ⊢;rw[h];rfl
theorem Yq{α β:Type}[DecidableEq α]{n:Nat}{P:Program}{T:TypeId}{e:Enc α}{f:Enc β}(hn:n<=10000)(he:EqE n P T e){S S':Nat->Prop}{w1 w2:World}{k:α}{cs:List Value}(hk:e.ok k S' w2 cs)(w:World):
  ∀(m:List (α×β)) (es:List MapEntry) (i:Nat),Vs e f S w1 m es->∃r,(Instr.findAsking T (e.pk cs) es i).run P w= .ok r w/\(eV m k=none->r=none)/\(∀b,eV m k=some b->∃j v,r=some (j,v)/\f.val b S w1 v)
 | [],[],i,_=>⟨none,by simp[Instr.findAsking],fun _=>rfl,fun b h=>by simp[eV] at h⟩
 | (a,b)::m,x::xs,i,⟨⟨G,H,I⟩,K,L⟩=>by
  obtain⟨r,B,C⟩:=he 10000 hn w S' S w2 w1 k a cs G hk H;rw[<-I] at B;have z:(Op.equal T (e.pk cs) x.key).run P w= .ok r w:=B;cases r with
  |true=>
   have u:=C.1 rfl;refine⟨some (i,x.val),by simp[Instr.findAsking,z],fun h=>?_,fun A h=>?_⟩
   ·simp[eV,u] at h
   ·simp[eV,u] at h;subst h;exact⟨i,x.val,rfl,K⟩
  |false=>
   have u:¬a=k:=fun h=>by have:=C.2 h.symm;cases this
   obtain⟨r,D,E,F⟩:=Yq hn he hk w m xs (i+1) L;refine⟨r,by simp[Instr.findAsking,z,D],fun h=>?_,fun A h=>?_⟩
   ·simp[eV,u] at h;exact E h
   ·simp[eV,u] at h;exact F A h
 | [],_::_,_,h=>h.elim
 |_::_,[],_,h=>h.elim
theorem Hq{α β:Type}[DecidableEq α]{n l:Nat}{E:TypeId}{P:Program}{T:TypeId}{e:Enc α}{f:Enc β}(hn:n<=10000)(hT:∀w,(underlying T).run P w= .ok (.array l E) w)(he:EqE n P T e){S S':Nat->Prop}{w1 w2:World}{k:α}{cs:List Value}(hk:e.ok k S' w2 cs)(w:World)
  (m:List (α×β)) (es:List MapEntry) (h:Vs e f S w1 m es):∃r,(Instr.findKey T (e.pk cs) es).run P w= .ok r w/\(eV m k=none->r=none)/\(∀b,eV m k=some b->∃j v,r=some (j,v)/\f.val b S w1 v):=by
 match m,es,h with
 | [],[],_=>exact⟨none,by simp[Instr.findKey,hT,Instr.findNow],fun _=>rfl,fun b h=>by simp[eV] at h⟩
 |q::m,x::xs,h=>
  obtain⟨r,u,z⟩:=Yq hn he hk w (q::m) (x::xs) 0 h;refine⟨r,?_,z⟩;simp[Instr.findKey,hT,Instr.findNow,Instr.sameNow,u]
section
variable {F:Frm}{σ:AS}{d:Option Tmp}{ty:TypeId}{p:String}{af:Array Edge}{gd:Option (Nat×Bool)}{x y z:Operand}
theorem Eu{α β:Type}{T:TypeId}(i:Nat)(e:Enc α)(f:Enc β):JO F ⟨d,.makeMap T none,ty,p,af,gd⟩ σ (.ref i) [(i,.mp e f [])]:=by
 intro ρ S a w K;refine OpWp.value (w':=w.alloc (.map #[] 0)) (v:= .map (some w.heap.size)) (by simp[execOp,Instr.makeMap]) ?_;refine yQ (.map (some w.heap.size)) (kP _ _) rfl ?_ ?_ ?_
 ·intro b u;simp[blk] at u;subst u;exact⟨aAi _,by simp⟩
 ·intro z ρ' h _;exact⟨_,#[],0,rfl,heap_alloc_new _ _,trivial⟩
 ·intro z ρ' _ hi _;simp only[Slot.ok];exact⟨by rw[hi];exact .inr ⟨_,rfl⟩,hi.symm⟩
theorem AY{α β:Type}[DecidableEq α]{n n' l:Nat}{M KT VT E:TypeId}{e:Enc α}{f:Enc β}{m:List (α×β)}{i:Nat}{k:α}{u:β}{zv:Value}(hx:cK σ.g x=some (.ref i))(hd:aW σ.d i=some (.mp e f m))(hy:cK σ.g y=some (.v e k))
  (hM:∀w,(underlying M).run F.P w= .ok (.map KT VT) w) (hT:∀w,(underlying KT).run F.P w= .ok (.array l E) w) (he:EqE n F.P KT e) (hn:Nat.ble n 10000=true) (hk:KeyE n' F.P KT e) (hn':Nat.ble n' 10000=true)
  (hz:∀w,(zeroValue VT).run F.P w= .ok zv w) (hzv:∀S w,f.val u S w zv):JO F ⟨d,.lookup M x y false,ty,p,af,gd⟩ σ (.v f ((eV m k).getD u)) []:=by
 intro ρ S a w K;obtain⟨B,I,_⟩:=xO K (x:=x) (by simp[Op.operands]) hx hd;obtain⟨b,C,V,D,L,N⟩:=I;have h:=K.slot y (by simp[Op.operands]) _ hy;simp only[Slot.ok] at h;obtain⟨O,h,G⟩:=h;obtain⟨r,H,Q,R⟩:=Hq (aAd hn) hT he h w m C.toList N;have z:=hk 10000 (aAd hn') C.isEmpty w S w k O h;have A:=MapKept.run_getObj_map (P:=F.P) L;cases hm:eV m k with
 |none=>
  have:=Q hm;subst this;refine OpWp.value (w':=w) (v:=zv) ?_ (Res.same (by simp only[Slot.ok];exact hzv _ _));simp[execOp,B,D,G,Instr.lookup,hM,A,z,H,hz]
 |some U=>
  obtain⟨j,v,rfl,T⟩:=R U hm;refine OpWp.value (w':=w) (v:=v) ?_ (Res.same (by simp only[Slot.ok];exact T));simp[execOp,B,D,G,Instr.lookup,hM,A,z,H]
theorem Ky{α β:Type}{e:Enc α}{f:Enc β}{S:Nat->Prop}{w:World}{k:α}{v:β}{x:MapEntry}(h1:e.val k S w x.key)(h2:f.val v S w x.val):∀{m:List (α×β)} {xs:List MapEntry},Vs e f S w m xs->Vs e f S w (m++[(k,v)]) (xs++[x])
 | [],[],_=>⟨h1,h2,trivial⟩
 | (_,_)::_,_::_,⟨u,z,A⟩=>⟨u,z,Ky h1 h2 A⟩
 | [],_::_,h=>h.elim
 |_::_,[],h=>h.elim
theorem AZ{α β:Type}[DecidableEq α]{n n' l:Nat}{M KT VT E:TypeId}{e:Enc α}{f:Enc β}{m m':List (α×β)}{i:Nat}{k:α}{v:β}(hm:Ga m k v=some m')(hx:cK σ.g x=some (.ref i))(hd:aW σ.d i=some (.mp e f m))(hy:cK σ.g y=some (.v e k))(hz:cK σ.g z=some (.v f v))
  (hM:∀w,(underlying M).run F.P w= .ok (.map KT VT) w) (hT:∀w,(underlying KT).run F.P w= .ok (.array l E) w) (he:EqE n F.P KT e) (hn:Nat.ble n 10000=true) (hk:KeyE n' F.P KT e) (hn':Nat.ble n' 10000=true):
  JM F ⟨none,.mapUpdate M x y z,ty,p,af,gd⟩ σ ⟨σ.g,(i,.mp e f m')::σ.d⟩:=by
 obtain⟨U,rfl⟩:=Oh hm;refine pC hd rfl fun ρ a w S T=>?_;have K:=bT S T (Op.mapUpdate M x y z).operands;obtain⟨V,X,_⟩:=xO K (x:=x) (by simp[Op.operands]) hx hd;obtain⟨b,B,u,C,D,I⟩:=X;have h:=K.slot y (by simp[Op.operands]) _ hy;have G:=K.slot z (by simp[Op.operands]) _ hz;simp only[Slot.ok] at h G;have L:=h;obtain⟨cs,h,aa⟩:=h;obtain⟨r,h8,h9,_⟩:=Hq (aAd hn) hT he h w m B.toList I;have N:=h9 U;subst N;have O:=hk 10000 (aAd hn') false w _ w k cs h;have Q:=MapKept.run_getObj_map (P:=F.P) D;have R:=fun o=>MapKept.run_setObj_map (P:=F.P) o D;have H:=MapKept.heap_set (o':= .map (B.push { key:=a.eval y,val:=a.eval z,born:=u }) (u+1)) D;refine⟨b,{ w with heap:=w.heap.setIfInBounds b (.map (B.push { key:=a.eval y,val:=a.eval z,born:=u }) (u+1)) },.inl (by rw[C];rfl),⟨by simp,H.2,rfl,rfl,rfl⟩,?_,fun A=>?_⟩
 ·simp[execOp,V,C,aa,Instr.mapUpdate,hM,Q,O,h8,R]
 ·refine⟨b,_,_,C,H.1,?_⟩;rw[aDk];exact Ky (gB L A) (gB G A) (yN A I)
end
end Go.Sw
namespace Go.Sw
open Go Go.RowKit
inductive Places (P:Program):List Field->List (Nat×Nat)->Prop
 |nil:Places P [] []
 |cons {f:Field} {fs:List Field} {n off:Nat} {l:List (Nat×Nat)}:f.offset=off->P.cellsOf f.type=n->(P.info? f.type).isSome=true->Places P fs l->Places P (f::fs) ((off,n)::l)
theorem Places.mapM{P:Program}{fs:List Field}{l:List (Nat×Nat)}(h:Places P fs l):(fs.mapM fun f=>(P.info? f.type).map fun i=>(f.offset,i.size))=some l:=by
 induction h with
 |nil=>rfl
 |cons A u z _ B=>
  rename_i f fs n C l _;rw[aCm,B];unfold Program.cellsOf at u;cases hi:P.info? f.type with
  |none=>rw[hi] at z;cases z
  |some i=>rw[hi] at u;simp at u;simp[A,u]
theorem cP{P:Program}{T:TypeId}{ti:TypeInfo}{fs:Array Field}{l:List (Nat×Nat)}{z:Value}{zs:List Value}(hI:∀w,(typeInfo T).run P w= .ok ti w)(hU:∀w,(underlying T).run P w= .ok (.struct fs) w)(hz:ti.zero=some z)(hc:z.cells=zs.toArray)
  (hp:Places P fs.toList l):∀parts,P.built T parts=Instr.fill (l.toArray[·]?) zs.toArray parts:=by
 intro parts;unfold Program.built;rw[sY hI,qA hU];simp only[hz,hp.mapM,hc]
theorem Wc{P:Program}{T:TypeId}{ti:TypeInfo}{de:TypeDesc}{z:Value}(hI:∀w,(typeInfo T).run P w= .ok ti w)(hU:∀w,(underlying T).run P w= .ok de w)(hz:ti.zero=some z)(hd:(∃n E iE,de= .array n E/\P.info? E=some iE)):P.built T []=some z.cells:=by
 obtain⟨n,E,iE,rfl,h⟩:=hd;unfold Program.built;rw[sY hI,qA hU];simp only[hz,h];rfl
section
variable {F:Frm}{σ:AS}{pb:Option Nat}{s:Slot}{d:Option Tmp}{ty:TypeId}{p:String}{af:Array Edge}{gd:Option (Nat×Bool)}{x y z:Operand}
theorem cT{α:Type}{e:Enc α}{v:α}{T E:TypeId}{n:Nat}{ti tE:TypeInfo}{cs:List Value}(hI:∀w,(typeInfo T).run F.P w= .ok ti w)(hU:∀w,(underlying T).run F.P w= .ok (.array n E) w)(hE:∀w,(typeInfo E).run F.P w= .ok tE w)(hz:ti.zero=some (.agg cs.toArray))(ha:e.agg=true)(hv:∀S w,e.ok v S w cs):
  JO F ⟨d,.build T #[],ty,p,af,gd⟩ σ (.v e v) []:=by
 intro ρ S a w K;have h:=Wc hI hU hz ⟨n,E,tE,rfl,sY hE⟩;refine OpWp.value (w':=w) (v:= .agg cs.toArray) ?_ (Res.same (by simp only[Slot.ok];exact⟨cs,hv _ _,by simp[Enc.pk,ha]⟩));have:=run_build (P:=F.P) w T #[] cs.toArray (by simpa[Value.cells] using h);simp only[execOp,aDc];simp[this]
def sub{α:Type}(xs:List α)(lo hi:Int):Option (List α):=if 0<=lo/\lo<=hi/\hi<=xs.length then some ((xs.take hi.toNat).drop lo.toNat) else none
theorem gG{α:Type}{xs ys:List α}{lo hi:Int}(h:sub xs lo hi=some ys):0<=lo/\lo<=hi/\hi<=xs.length/\ys=(xs.take hi.toNat).drop lo.toNat:=by
 unfold sub at h;split at h
 ·rename_i u;cases h;exact⟨u.1,u.2.1,u.2.2,rfl⟩
 ·cases h
theorem uU{α:Type}{e:Enc α}{S w}:∀{xs:List α} {cs:List Value} (n:Nat),e.okL xs S w cs->e.okL (xs.drop n) S w (cs.drop (n*e.n))
 |xs,cs,0,h=>by simpa using h
 | [],cs,n+1,h=>by
  have:cs=[]:=h;subst this;simpa using h
 |x::xs,cs,n+1,⟨c,d,A,B,C⟩=>by
  subst A;have:=uU n C;have u:=e.len B;rw[aEd,aCz (n*e.n),<-u,aD4,u];have z:c.drop (e.n+n*e.n)=[]:=aDx (by omega);rw[z];simpa using this
theorem rR{α:Type}{e:Enc α}{S w}:∀{xs:List α} {cs:List Value} (n:Nat),e.okL xs S w cs->e.okL (xs.take n) S w (cs.take (n*e.n))
 |xs,cs,0,h=>by simp;rfl
 | [],cs,n+1,h=>by
  have:cs=[]:=h;subst this;simpa using h
 |x::xs,cs,n+1,⟨c,d,B,z,C⟩=>by
  subst B;have:=rR n C;have u:=e.len z;refine⟨c,d.take (n*e.n),?_,z,this⟩;rw[aEd,aCz (n*e.n),<-u,List.take_append,u];have A:c.take (e.n+n*e.n)=c:=aB0 (by omega);rw[A];simp
theorem MemAt.drop{w:World}{b off:Nat}{ds:List Value}(n:Nat)(h:MemAt w b off ds):MemAt w b (off+n) (ds.drop n):=by
 obtain⟨c,T,z,A,B⟩:=h;refine⟨c,T,z,A,fun j u=>?_⟩;have:=B (n+j) (by simp at u;omega);rw[List.getElem_drop,<-this];congr 1;omega
theorem MemAt.take{w:World}{b off:Nat}{ds:List Value}(n:Nat)(h:MemAt w b off ds):MemAt w b off (ds.take n):=by
 obtain⟨c,T,z,A,B⟩:=h;refine⟨c,T,z,A,fun j u=>?_⟩;rw[List.getElem_take];exact B j (by simp at u;omega)
theorem EH{α:Type}{e:Enc α}{xs ys:List α}{lo hi:Int}{S:Nat->Prop}{w:World}{a:Option Addr}{cap:Nat}(hs:sub xs lo hi=some ys)(hl:xs.length<=cap/\xs.length<=140737488355328)
  (h:xs=[]\/∃b off ds,a=some ⟨b,off,none⟩/\b<w.heap.size/\¬S b/\MemAt w b off ds/\e.okL xs S w ds):
  (Enc.sl e).val ys S w (.slice (if cap=lo.toNat then a else a.map (·.add (lo.toNat*e.n))) (hi.toNat - lo.toNat) (cap - lo.toNat)):=by
 obtain⟨F,G,H,rfl⟩:=gG hs;have u:((xs.take hi.toNat).drop lo.toNat).length=hi.toNat - lo.toNat:=by rw[aA1,aAp];omega
 refine rJ.2 ⟨_,_,by rw[u],⟨by rw[u];omega,by rw[u];omega⟩,?_⟩;rcases h with h |⟨b,off,ds,rfl,B,C,D,E⟩
 ·subst h;left;simp
 ·by_cases z:hi.toNat - lo.toNat=0
  ·left;exact aAu (by rw[u];exact z)
  ·right;have A:¬cap=lo.toNat:=by omega
   refine⟨b,off+lo.toNat*e.n,_,by rw[aAj A];simp[Addr.add_lit],B,C,(D.take (hi.toNat*e.n)).drop (lo.toNat*e.n),uU _ (rR _ E)⟩
theorem BA{P:Program}{w:World}{len cap:Nat}{k k':IntKind}{lo hi:Int}(h0:0<=lo)(h1:lo<=hi)(h2:hi<=cap):(Instr.sliceBounds true len cap (some (.int k lo)) (some (.int k' hi)) none).run P w= .ok (lo.toNat,hi.toNat,cap) w:=by
 have h:0<=hi:=by omega
 have u:lo<=(hi.toNat:Int):=by omega
 simp only[Instr.sliceBounds,Instr.sliceBound,asIntOf,Sem.run_bind,Sem.run_pure,Result.andThen_ok,h2,h,u,h0,and_self,aBb]
theorem Gb{P:Program}{w:World}{len cap:Nat}{k':IntKind}{hi:Int}(h1:0<=hi)(h2:hi<=cap):(Instr.sliceBounds true len cap none (some (.int k' hi)) none).run P w= .ok (0,hi.toNat,cap) w:=by
 simp[Instr.sliceBounds,Instr.sliceBound,asIntOf,h1,h2]
theorem Cf{P:Program}{w:World}{len cap:Nat}{k:IntKind}{lo:Int}(h0:0<=lo)(h1:lo<=len):(Instr.sliceBounds true len cap (some (.int k lo)) none none).run P w= .ok (lo.toNat,len,cap) w:=by
 simp[Instr.sliceBounds,Instr.sliceBound,asIntOf,h0,h1]
theorem EI{α:Type}{e:Enc α}{xs:List α}{xs':Array Operand}{ρ:Nat->LV}{S a w}(K:Know σ xs' ρ S a w)(hm:x∈xs')(hx:cK σ.g x=some (.v (Enc.sl e) xs)):
  ∃ad cap,a.eval x= .slice ad xs.length cap/\(xs.length<=cap/\xs.length<=140737488355328)/\(xs=[]\/∃b off ds,ad=some ⟨b,off,none⟩/\b<w.heap.size/\¬S b/\MemAt w b off ds/\e.okL xs S w ds):=by
 have h:=K.slot x hm _ hx;simp only[Slot.ok] at h;exact rJ.1 h
theorem Yr{α:Type}{e:Enc α}{xs ys:List α}{hi:Int}{k':IntKind}{U E:TypeId}(hs:sub xs 0 hi=some ys)(hx:cK σ.g x=some (.v (Enc.sl e) xs))(hz:cK σ.g z=some (.v (Enc.int k') hi))
  (hU:∀w,(underlying U).run F.P w= .ok (.slice E) w) (hE:∀w,(sizeOf E).run F.P w= .ok e.n w):JO F ⟨d,.slice U x none (some z) none,ty,p,af,gd⟩ σ (.v (Enc.sl e) ys) []:=by
 intro ρ S a w K;obtain⟨D,u,A,B,C⟩:=EI K (x:=x) (by simp[Op.operands]) hx;have h:=(fB K (x:=z) (by simp[Op.operands]) hz).1;obtain⟨G,s1,H,_⟩:=gG hs;refine OpWp.value (w':=w) ?_ (Res.same (by simp only[Slot.ok];exact EH hs B C));simp[execOp,Instr.sliceAt,Instr.slice,A,h,hU,hE,Gb s1 (show hi<=(u:Int) by omega)]
theorem vU{α:Type}{e:Enc α}{xs ys:List α}{lo:Int}{k:IntKind}{U E:TypeId}(hs:sub xs lo (xs.length:Int)=some ys)(hx:cK σ.g x=some (.v (Enc.sl e) xs))(hy:cK σ.g y=some (.v (Enc.int k) lo))
  (hU:∀w,(underlying U).run F.P w= .ok (.slice E) w) (hE:∀w,(sizeOf E).run F.P w= .ok e.n w):JO F ⟨d,.slice U x (some y) none none,ty,p,af,gd⟩ σ (.v (Enc.sl e) ys) []:=by
 intro ρ S a w K;obtain⟨C,D,u,z,A⟩:=EI K (x:=x) (by simp[Op.operands]) hx;have h:=(fB K (x:=y) (by simp[Op.operands]) hy).1;obtain⟨B,s1,G,_⟩:=gG hs;refine OpWp.value (w':=w) ?_ (Res.same (by simp only[Slot.ok];exact EH hs z A));simp[execOp,Instr.sliceAt,Instr.slice,u,h,hU,hE,Cf B s1]
theorem EJ{α:Type}{e:Enc α}{xs ys:List α}{lo hi m:Int}{k k' k2:IntKind}{q:Operand}{U E:TypeId}(hs:sub xs lo hi=some ys)(hm:hi<=m/\m<=xs.length)(hx:cK σ.g x=some (.v (Enc.sl e) xs))(hy:cK σ.g y=some (.v (Enc.int k) lo))(hz:cK σ.g z=some (.v (Enc.int k') hi))(hq:cK σ.g q=some (.v (Enc.int k2) m))
  (hU:∀w,(underlying U).run F.P w= .ok (.slice E) w) (hE:∀w,(sizeOf E).run F.P w= .ok e.n w):JO F ⟨d,.slice U x (some y) (some z) (some q),ty,p,af,gd⟩ σ (.v (Enc.sl e) ys) []:=by
 intro ρ S a w K;obtain⟨G,H,X,h2,D⟩:=EI K (x:=x) (by simp[Op.operands]) hx;have A:=(fB K (x:=y) (by simp[Op.operands]) hy).1;have B:=(fB K (x:=z) (by simp[Op.operands]) hz).1;have C:=(fB K (x:=q) (by simp[Op.operands]) hq).1;obtain⟨s0,s1,s2,rfl⟩:=gG hs;have u:((xs.take hi.toNat).drop lo.toNat).length=hi.toNat - lo.toNat:=by rw[aA1,aAp];omega
 have I:(Enc.sl e).val ((xs.take hi.toNat).drop lo.toNat) S w (.slice (if m.toNat=lo.toNat then G else G.map (·.add (lo.toNat*e.n))) (hi.toNat - lo.toNat) (m.toNat - lo.toNat)):=by
  refine rJ.2 ⟨_,_,by rw[u],⟨by rw[u];omega,by rw[u];omega⟩,?_⟩;rcases D with h |⟨b,aa,ds,rfl,D,A,B,C⟩
  ·subst h;left;simp
  ·by_cases L:hi.toNat - lo.toNat=0
   ·left;exact aAu (by rw[u];exact L)
   ·right;have M:¬m.toNat=lo.toNat:=by omega
    refine⟨b,aa+lo.toNat*e.n,_,by rw[aAj M];simp[Addr.add_lit],D,A,(B.take (hi.toNat*e.n)).drop (lo.toNat*e.n),uU _ (rR _ C)⟩
 refine OpWp.value (w':=w) ?_ (Res.same (by simp only[Slot.ok];exact I));have N:(Instr.sliceBounds true xs.length H (some (.int k lo)) (some (.int k' hi)) (some (.int k2 m))).run F.P w= .ok (lo.toNat,hi.toNat,m.toNat) w:=by
  have O:0<=m:=by omega
  have Q:m<=(H:Int):=by omega
  have R:0<=hi:=by omega
  have T:hi<=(m.toNat:Int):=by omega
  have V:lo<=(hi.toNat:Int):=by omega
  simp only[Instr.sliceBounds,Instr.sliceBound,asIntOf,Sem.run_bind,Sem.run_pure,Result.andThen_ok,s0,O,Q,R,T,V,and_self,aBb]
 simp[execOp,Instr.sliceAt,Instr.slice,X,A,B,C,hU,hE,N]
def arrOf{α:Type}(n:Nat)(xs:List α):Option (List α):=if n<=xs.length/\0<n then some (xs.take n) else none
theorem De{α:Type}{e:Enc α}{xs ys:List α}{n:Nat}{U E:TypeId}(hs:arrOf n xs=some ys)(hx:cK σ.g x=some (.v (Enc.sl e) xs))(hU:∀w,(underlying U).run F.P w= .ok (.array n E) w):
  JO F ⟨d,.sliceToArrayPointer U x,ty,p,af,gd⟩ σ (.pst (Enc.arr n e) ys) []:=by
 intro ρ S a w K;obtain⟨I,L,C,M,u⟩:=EI K (x:=x) (by simp[Op.operands]) hx;unfold arrOf at hs;split at hs
 ·rename_i B;cases hs;rcases u with h |⟨b,z,N,rfl,u,D,G,H⟩
  ·subst h;simp at B;omega
  ·have A:¬xs.length<n:=by omega
   refine OpWp.value (w':=w) (v:= .pointer (some ⟨b,z,none⟩)) ?_ (Res.same (by simp only[Slot.ok];exact⟨b,z,_,rfl,u,D,G.take (n*e.n),by rw[aAp];omega,rR _ H⟩));simp[execOp,Instr.arrayAt,C,hU,A]
 ·cases hs
theorem Aa{k:IntKind}{m n:Int}{U U':TypeId}(hx:cK σ.g x=some (.v (Enc.int k) m))(hy:cK σ.g y=some (.v (Enc.int k) n)):
  JO F ⟨d,.call ⟨.builtin .max,#[x,y],#[U,U']⟩,ty,p,af,gd⟩ σ (.v (Enc.int k) (max m n)) []:=by
 intro ρ S a w K;obtain⟨h,z⟩:=fB K (x:=x) (by simp[Op.operands,Call.operands]) hx;obtain⟨u,A⟩:=fB K (x:=y) (by simp[Op.operands,Call.operands]) hy;have e:(if n>m then n else m)=max m n:=by split<;>omega
 refine OpWp.value (w':=w) (v:= .int k (max m n)) ?_ (Res.same (sE (by unfold Db at*;omega) ρ S w));simp[execOp,resolve,invoke,builtin,h,u,Builtin.max_,Builtin.max2,e]
theorem xP{k:IntKind}{m n:Int}{U U':TypeId}(hx:cK σ.g x=some (.v (Enc.int k) m))(hy:cK σ.g y=some (.v (Enc.int k) n)):
  JO F ⟨d,.call ⟨.builtin .min,#[x,y],#[U,U']⟩,ty,p,af,gd⟩ σ (.v (Enc.int k) (min m n)) []:=by
 intro ρ S a w K;obtain⟨h,z⟩:=fB K (x:=x) (by simp[Op.operands,Call.operands]) hx;obtain⟨u,A⟩:=fB K (x:=y) (by simp[Op.operands,Call.operands]) hy;have e:(if n<m then n else m)=min m n:=by split<;>omega
 refine OpWp.value (w':=w) (v:= .int k (min m n)) ?_ (Res.same (sE (by unfold Db at*;omega) ρ S w));simp[execOp,resolve,invoke,builtin,h,u,Builtin.min_,Builtin.min2,e]
theorem Hr{T U:TypeId}{l:List Slot}{i off n:Nat}{s0:Slot}(hx:cK σ.g x=some (.ptr i off))(he:aW σ.d i=some (.box T l pb))(ho:mP l off=some s0)(hy:Arg σ false y s)(hp:s.plain=true)(hsz:s.sz=n)(hsz0:s0.sz=n)
  (hS:∀w,(sizeOf U).run F.P w= .ok n w):JM F ⟨none,.store U x y,ty,p,af,gd⟩ σ ⟨σ.g,(i,.box T (nD l off s) pb)::σ.d⟩:=by
 refine pC he rfl fun ρ a w z A=>?_;have K:=bT z A (Op.store U x y).operands;obtain⟨b,R,B,I,C,L⟩:=yS K (x:=x) (by simp[Op.operands]) hx he;have h:=pY hp (hy ρ _ a w (bT z A #[y]));simp only[aAw,aA4] at h;obtain⟨M,c,N,rfl,rfl,O,Q⟩:=tZ ho L;have D:∀u∈(a.eval y).cells.toList,u.oneCell'=true:=fun u G=>Fy h u G (fun e=>by subst e;cases hp);have E:=kL (P:=F.P) (w:=w) (U:=U) hS (by have:=mT h;simp only[aA3] at this;omega) D C rfl (by rw[mT O];exact hsz0);refine⟨b,w.setRow b (M++((a.eval y).cells.toList++N)).toArray,.inl (by rw[B];rfl),Upd.setRow w b _,?_,fun H=>?_⟩
 ·exact kM I E
 ·refine⟨⟨b,_,B,setRow_heap w b _ _ T _ C,?_⟩,(z.own i _ he).2⟩;exact eZ _ _ (Q s _ h) H (fun _ _=>rfl)
theorem EK(g:Nat)(ρ:Nat->LV)(S:Nat->Prop)(w:World):(Slot.fnc g []).ok ρ S w (.func (.func g) #[] #[]):=by
 simp only[Slot.ok];exact⟨[],rfl,rfl⟩
theorem Arg.fn{g:Nat}{lend:Bool}:Arg σ lend (.func g) (.fnc g []):=fun ρ _ a w _=>EK g ρ _ w
end
end Go.Sw
namespace Go.Sw
open Go Go.RowKit
section
variable {F:Frm}{σ:AS}{pb:Option Nat}{s:Slot}{d:Option Tmp}{ty:TypeId}{p:String}{af:Array Edge}{gd:Option (Nat×Bool)}{x y z:Operand}
theorem Ab{ρ S w}:∀{l l':List Slot} {vs vs':List Value},aV ρ S w l vs->aV ρ S w l' vs'->aV ρ S w (l++l') (vs++vs')
 | [],_,vs,_,h,z=>by simp only[aV] at h;subst h;exact z
 |s::l,_,vs,_,h,z=>by
  simp only[aV] at h;obtain⟨u,C,rfl,A,B⟩:=h;simp only[aBh,aV];exact⟨u,_,rfl,A,Ab B z⟩
theorem Oi{P:Program}{f:FuncId}{xs:List Operand}{ts:Array TypeId}{a:Act}{w:World}{cs:List Value}(hx:a.eval x= .func (.func f) #[] cs.toArray)(hcall:∀args w,(callFunc f args).run P w= .ok (.enter f args) w):
  (execOp a.eval ⟨d,.call ⟨.value x,xs.toArray,ts⟩,ty,p,af,gd⟩).run P w= .ok (.enter f (xs.map a.eval++cs).toArray) w:=by
 simp[execOp,resolve,hx,Deferred.ofValue,invoke,hcall]
theorem sL{f:FuncId}{xs:List Operand}{cap:List Slot}(ha:Args σ false xs cap):JO F ⟨d,.makeFunc (.func f) #[] xs.toArray,ty,p,af,gd⟩ σ (.fnc f cap) []:=by
 intro ρ S a w K;have:=ha.spec (ys:=(Op.makeFunc (.func f) #[] xs.toArray).operands) (by intro x h;simp[Op.operands,h]) K;simp only[aAw,aA4] at this;refine OpWp.value (w':=w) (v:= .func (.func f) #[] (xs.map a.eval).toArray) (by simp[execOp,Instr.makeFunc]) (Res.same (by simp only[Slot.ok];exact⟨_,rfl,this⟩))
theorem Wd{α:Type}{i:Nat}{T:TypeId}{e:Enc α}{v:α}{bl:List Slot}{ρ:Nat->LV}{S:Nat->Prop}{w:World}{u:Value}(h0:(Slot.ptr i 0).ok ρ S w u)(he:(Ent.box T bl pb).ok ρ S w (ρ i))(hs:Spl bl e v):
  (Slot.pst e v).ok ρ (fun _=>False) w u:=by
 simp only[Slot.ok] at h0 ⊢;obtain⟨⟨b,z⟩,D⟩:=h0;obtain⟨⟨A,E,B,C,F⟩,_⟩:=he;obtain rfl:A=b:=by rw[z] at B;simpa using B.symm
 exact⟨A,0,E,by rw[D,z];rfl,(MemAt.of_heap C).lt,fun h=>h,MemAt.of_heap C,e.mono ((hs _ _ _ _).1 F) (yT S w true)⟩
inductive CapL (σ:AS):List Slot->List Slot->Prop
 |nil:CapL σ [] []
 |same {s:Slot} {l l':List Slot}:CapL σ l l'->CapL σ (s::l) (s::l')
 |ptr {α:Type} {i:Nat} {T:TypeId} {e:Enc α} {v:α} {bl l l':List Slot} {pb:Option Nat}:aW σ.d i=some (.box T bl pb)->Spl bl e v->CapL σ l l'->CapL σ (.ptr i 0::l) (.pst e v::l')
theorem CapL.spec{l l':List Slot}(h:CapL σ l l'){ρ S w}(hent:∀i∈dF l,∀en,aW σ.d i=some en->en.ok ρ S w (ρ i)):∀vs,aV ρ S w l vs->aV ρ (fun _=>False) w l' vs:=by
 induction h with
 |nil=>intro vs h;exact h
 |same _ E=>
  intro vs h;simp only[aV] at h ⊢;obtain⟨u,z,B,C,D⟩:=h;exact⟨u,z,B,Slot.ok_mono _ u C (yT S w true) (fun _ _=>rfl),E (fun i A=>hent i (by simp[dF,A])) z D⟩
 |ptr F G _ E=>
  intro vs h;simp only[aV] at h ⊢;obtain⟨u,z,B,C,D⟩:=h;exact⟨u,z,B,Wd C (hent _ (by simp[dF,Slot.lab]) _ F) G,E (fun i A=>hent i (by simp[dF,A])) z D⟩
theorem Arg.lendP{α:Type}{i:Nat}{T:TypeId}{e:Enc α}{v:α}{bl:List Slot}(h:cK σ.g x=some (.ptr i 0))(he:aW σ.d i=some (.box T bl pb))(hs:Spl bl e v):Arg σ true x (.pst e v):=by
 intro ρ S a w K;have u:=K.slot x (by simp) _ h;exact Wd u (K.ent x (by simp) _ h i (by simp[Slot.lab]) _ he).1 hs
theorem Arg.lendF{g:Nat}{cap cap':List Slot}(h:cK σ.g x=some (.fnc g cap))(hc:CapL σ cap cap'):Arg σ true x (.fnc g cap'):=by
 intro ρ S a w K;have u:=K.slot x (by simp) _ h;simp only[Slot.ok] at u;obtain⟨vs,C,D⟩:=u;simp only[Slot.ok,aBb];exact⟨vs,C,hc.spec (fun i z A B=>(K.ent x (by simp) _ h i (by simpa[Slot.lab] using z) A B).1) vs D⟩
theorem qN{α:Type}{e:Enc α}{v:α}(hx:cK σ.g x=some (.pst e v)):JO F ⟨d,.nilCheck x,ty,p,af,gd⟩ σ (.pst e v) []:=by
 intro ρ S a w K;have h:=K.slot x (by simp[Op.operands]) _ hx;have u:=h;simp only[Slot.ok] at u;obtain⟨b,A,B,z,_⟩:=u;refine OpWp.value (w':=w) (v:=a.eval x) ?_ (Res.same h);simp[execOp,z]
theorem aK{i off:Nat}(hx:cK σ.g x=some (.ptr i off)):JO F ⟨d,.nilCheck x,ty,p,af,gd⟩ σ (.ptr i off) []:=by
 intro ρ S a w K;have h:=K.slot x (by simp[Op.operands]) _ hx;have u:=h;simp only[Slot.ok] at u;obtain⟨⟨b,z⟩,A⟩:=u;refine OpWp.value (w':=w) (v:=a.eval x) ?_ (Res.same h);simp[execOp,A,z,Bz]
end
end Go.Sw
namespace Go.Sw
open Go Go.RowKit
theorem Spl.prm{α β:Type}{l l':List Slot}{a:Enc α}{b:Enc β}{x:α}{y:β}(h:Spl l a x)(h':Spl l' b y):Spl (l++l') (Enc.pr a b) (x,y):=Spl.pr (x:=(x,y)) h h'
section
variable {F:Frm}{σ:AS}{pb:Option Nat}{s:Slot}{d:Option Tmp}{ty:TypeId}{p:String}{af:Array Edge}{gd:Option (Nat×Bool)}{x y z:Operand}
theorem aO{f:FuncId}{xs:List Operand}{ts:Array TypeId}{ss:List Slot}{res:Slot}(hc:Con F.P f ss res [])(hcall:∀args w,(callFunc f args).run F.P w= .ok (.enter f args) w)
  (ha:Args σ false xs ss):JO F ⟨d,.call ⟨.value (.func f),xs.toArray,ts⟩,ty,p,af,gd⟩ σ res []:=by
 intro ρ S a w K;refine OpWp.enter (sX hcall) ?_;have:=ha.spec (ys:=(Op.call ⟨.value (.func f),xs.toArray,ts⟩).operands) (by intro x u;simp[Op.operands,Call.operands,u]) K;refine(hc S w _ ρ K.low this).mono ?_;rintro e z ⟨v,rfl,h⟩;exact⟨v,rfl,h⟩
theorem sN{f:FuncId}{xs:List Operand}{ts:Array TypeId}{ss cap:List Slot}{res:Slot}(hx:cK σ.g x=some (.fnc f cap))(hc:Con F.P f (ss++cap) res [])(hcall:∀args w,(callFunc f args).run F.P w= .ok (.enter f args) w)
  (ha:Args σ false xs ss):JO F ⟨d,.call ⟨.value x,xs.toArray,ts⟩,ty,p,af,gd⟩ σ res []:=by
 intro ρ S a w K;have u:=K.slot x (by simp[Op.operands,Call.operands]) _ hx;simp only[Slot.ok] at u;obtain⟨B,z,A⟩:=u;refine OpWp.enter (Oi z hcall) ?_;have:=ha.spec (ys:=(Op.call ⟨.value x,xs.toArray,ts⟩).operands) (by intro x hx;simp[Op.operands,Call.operands,hx]) K;refine(hc S w _ ρ K.low (Ab this A)).mono ?_;rintro e C ⟨v,rfl,h⟩;exact⟨v,rfl,h⟩
theorem qO{f:FuncId}{xs:List Operand}{ts:Array TypeId}{ss:List Slot}{res:Slot}(hc:Con F.P f ss res [])(hcall:∀args w,(callFunc f args).run F.P w= .ok (.enter f args) w)
  (ha:Args σ true xs ss) (hf:FlatS res):JO F ⟨d,.call ⟨.value (.func f),xs.toArray,ts⟩,ty,p,af,gd⟩ σ res []:=by
 intro ρ S a w K;refine OpWp.enter (sX hcall) ?_;have:=ha.spec (ys:=(Op.call ⟨.value (.func f),xs.toArray,ts⟩).operands) (by intro x z;simp[Op.operands,Call.operands,z]) K;refine(hc (fun _=>False) w _ ρ (fun _ h=>h.elim) this).mono ?_;rintro e E ⟨v,rfl,ρ',A,B,C,G⟩;refine⟨v,rfl,ρ',A,B,hf _ _ _ _ _ C,⟨fun i u h=>by simp[aW] at h,fun i u b h=>by simp[aW] at h,fun i j u D b h=>by simp[aW] at h⟩⟩
theorem Kz{P:Program}{w:World}{n:Nat}:(Instr.sliceBounds false n n none none none).run P w= .ok (0,n,n) w:=by simp[Instr.sliceBounds]
theorem Iy{P:Program}{w:World}{n:Nat}{k:IntKind}{hi:Int}(h0:0<=hi)(h1:hi<=n):(Instr.sliceBounds false n n none (some (.int k hi)) none).run P w= .ok (0,hi.toNat,n) w:=by
 simp[Instr.sliceBounds,Instr.sliceBound,asIntOf,h0,h1]
theorem BB{P:Program}{w:World}{U E:TypeId}{b off len m:Nat}(hU:∀w,(underlying U).run P w= .ok (.array len E) w)(hE:∀w,(sizeOf E).run P w= .ok m w):(Instr.sliceAt U (.pointer (some ⟨b,off,none⟩)) none none none).run P w= .ok (.slice (some ⟨b,off,none⟩) len len) w:=by
 have u:Addr.add ⟨b,off,none⟩ 0=⟨b,off,none⟩:=by rw[Addr.add_lit];rfl
 by_cases h:len=0
 ·subst h;simp[Instr.sliceAt,hU,hE,Instr.sureAddr,Kz]
 ·simp[Instr.sliceAt,hU,hE,Instr.sureAddr,Kz,h,u]
theorem We{P:Program}{w:World}{U E:TypeId}{b off len m:Nat}{k:IntKind}{hi:Int}(h0:0<=hi)(h1:hi<=len)(hU:∀w,(underlying U).run P w= .ok (.array len E) w)(hE:∀w,(sizeOf E).run P w= .ok m w):(Instr.sliceAt U (.pointer (some ⟨b,off,none⟩)) none (some (.int k hi)) none).run P w= .ok (.slice (some ⟨b,off,none⟩) hi.toNat len) w:=by
 have u:Addr.add ⟨b,off,none⟩ 0=⟨b,off,none⟩:=by rw[Addr.add_lit];rfl
 by_cases h:len=0
 ·subst h;simp[Instr.sliceAt,hU,hE,Instr.sureAddr,Iy h0 h1]
 ·simp[Instr.sliceAt,hU,hE,Instr.sureAddr,Iy h0 h1,h,u]
theorem Oj{α:Type}{e:Enc α}{zs:List α}{T U E:TypeId}{l:List Slot}{i off len:Nat}(hx:cK σ.g x=some (.ptr i off))(he:aW σ.d i=some (.box T l pb))(_ho:mP l off=some (.v (Enc.arr len e) zs))
  (hU:∀w,(underlying U).run F.P w= .ok (.array len E) w) (hE:∀w,(sizeOf E).run F.P w= .ok e.n w):
  JO F ⟨d,.slice U x none none none,ty,p,af,gd⟩ σ (.asl i off 0 len len) []:=by
 intro ρ S a w K;obtain⟨b,z,h,u,A,B⟩:=yS K (x:=x) (by simp[Op.operands]) hx he;refine OpWp.value (w':=w) (v:= .slice (some ⟨b,off,none⟩) len len) ?_ (Res.same (by simp only[Slot.ok];exact⟨⟨b,h⟩,by rw[h];rfl⟩));simp[execOp,u,BB hU hE]
theorem PV{xs:Array Operand}{ρ:Nat->LV}{S a w}(K:Know σ xs ρ S a w)(hm:x∈xs){i off n cap:Nat}{T:TypeId}{l:List Slot}(hx:cK σ.g x=some (.asl i off 0 n cap))(he:aW σ.d i=some (.box T l pb)):
  ∃b cs,a.eval x= .slice (some ⟨b,off,none⟩) n cap/\w.heap[b]? =some (.cells cs.toArray T (0,0))/\aZ ρ S w l cs:=by
 have h:=K.slot x hm _ hx;simp only[Slot.ok] at h;obtain⟨⟨b,u⟩,B⟩:=h;have:=(K.ent x hm _ hx i (by simp[Slot.lab]) _ he).1;obtain⟨⟨z,cs,A,C,D⟩,_⟩:=this;obtain rfl:z=b:=by rw[u] at A;simpa using A.symm
 exact⟨z,cs,by rw[B,u];rfl,C,D⟩
theorem JK{α:Type}{e:Enc α}{zs:List α}{T:TypeId}{l:List Slot}{b off len:Nat}{cs:List Value}{ρ:Nat->LV}{S:Nat->Prop}{w:World}(h3:w.heap[b]? =some (.cells cs.toArray T (0,0)))(h4:aZ ρ S w l cs)(ho:mP l off=some (.v (Enc.arr len e) zs)):
  zs.length=len/\∃ds,MemAt w b off ds/\e.okL zs S w ds:=by
 obtain⟨u,c,z,rfl,rfl,h,_⟩:=tZ ho h4;simp only[Slot.okc] at h;exact⟨h.1,c,by have:=(MemAt.of_heap h3).sub;simpa using this,h.2⟩
theorem Src.asl{α:Type}{e:Enc α}{zs:List α}{T:TypeId}{l:List Slot}{i off len:Nat}(h:cK σ.g y=some (.asl i off 0 len len))(he:aW σ.d i=some (.box T l pb))(ho:mP l off=some (.v (Enc.arr len e) zs))(hlen:Nat.ble len 4294967296=true):Src σ y e zs:=by
 intro ρ S a w K;have hlen:=aAd hlen;obtain⟨b,F,u,z,A⟩:=PV K (x:=y) (by simp) h he;obtain⟨B,C,D,E⟩:=JK z A ho;exact⟨by omega,_,_,by rw[u,B],.inr ⟨b,off,C,rfl,D,E⟩⟩
theorem BC{α:Type}{e:Enc α}{T E:TypeId}{n:Nat}{ti tE:TypeInfo}{z:Value}{ps:List (Nat×Operand)}{zs:List α}(hI:∀w,(typeInfo T).run F.P w= .ok ti w)(hU:∀w,(underlying T).run F.P w= .ok (.array n E) w)(hE:∀w,(typeInfo E).run F.P w= .ok tE w)(hs:tE.size=e.n)(hz:ti.zero=some z)(hzn:z.cells.size=n*e.n)
  (hl:ps.length=n) (hl':zs.length=n) (he:Elems σ e 0 ps zs):JO F ⟨d,.build T ps.toArray,ty,p,af,gd⟩ σ (.v (Enc.arr n e) zs) []:=by
 intro ρ S a w K;obtain⟨h,B,C⟩:=he.spec (ys:=(Op.build T ps.toArray).operands) (by intro x u;simp[Op.operands] at u ⊢;exact u) K [] z.cells.toList (by simp) (by rw[hl,aA3,hzn]);refine OpWp.value (w':=w) (v:= .agg h.toArray) ?_ (Res.same (by simp only[Slot.ok];exact⟨h,⟨hl',C⟩,rfl⟩));have A:F.P.built T (ps.map fun q=>(q.1,a.eval q.2))=some h.toArray:=by
  unfold Program.built;rw[sY hI,qA hU];simp only[hz,sY hE,hs];simpa using B
 have:=run_build (P:=F.P) w T (ps.map fun q=>(q.1,a.eval q.2)).toArray h.toArray (by simpa using A);simp only[execOp,aDc];simp[this]
end
end Go.Sw
namespace Go.Sw
open Go Go.RowKit
def Enc.slN{α:Type}(e:Enc α):Enc (Bool×List α) where
 n:=1
 agg:=false
 ok x S w cs:=(Enc.sl e).ok x.2 S w cs/\∀a l c,cs=[.slice a l c]->x.1=a.isNone
 len h:=(Enc.sl e).len h.1
 one _:=rfl
 cell h:=(Enc.sl e).cell h.1
 mono h k:=⟨(Enc.sl e).mono h.1 k,h.2⟩
theorem Qm{α:Type}{e:Enc α}{b:Bool}{xs:List α}{S w u}(h:(Enc.slN e).val (b,xs) S w u):(Enc.sl e).val xs S w u/\∃a l c,u= .slice a l c/\b=a.isNone:=by
 obtain⟨B,⟨z,C⟩,rfl⟩:=h;refine⟨⟨B,z,rfl⟩,?_⟩;obtain⟨a,D,A,_⟩:=z;exact⟨a,_,D,by rw[A];rfl,C _ _ _ A⟩
theorem qP{α:Type}{P:Program}{f:FuncId}{e:Enc α}{xs:List α}{res:Slot}{new:List (Nat×Ent)}(h:∀b,(b=true->xs=[])->Con P f [.v (Enc.slN e) (b,xs)] res new):Con P f [.v (Enc.sl e) xs] res new:=by
 intro S w vs ρ hl hv;simp only[aV,Slot.ok] at hv;obtain⟨u,F,rfl,C,rfl⟩:=hv;obtain⟨a,A,rfl,D,z⟩:=rJ.1 C;refine h a.isNone (fun B=>?_) S w _ ρ hl ?_
 ·rcases z with z |⟨b,G,H,rfl,_⟩
  ·exact z
  ·cases B
 ·simp only[aV,Slot.ok];refine⟨_,[],rfl,⟨[.slice a xs.length A],⟨⟨a,A,rfl,D,z⟩,fun E l c h=>?_⟩,rfl⟩,rfl⟩;simp at h;rw[h.1]
section
variable {F:Frm}{σ:AS}{s:Slot}{d:Option Tmp}{ty:TypeId}{p:String}{af:Array Edge}{gd:Option (Nat×Bool)}{x y z:Operand}
theorem wH{α:Type}{e:Enc α}{v:Bool×List α}{T T' E:TypeId}(hx:cK σ.g x=some (.v (Enc.slN e) v))(hT:∀w,(underlying T).run F.P w= .ok (.slice E) w):JO F ⟨d,.binOp .eql T x (.const (.slice none 0 0)) T',ty,p,af,gd⟩ σ (.v Enc.bool v.1) []:=by
 intro ρ S a w K;have h:=K.slot x (by simp[Op.operands]) _ hx;simp only[Slot.ok] at h;obtain⟨b,xs⟩:=v;obtain⟨_,u,l,c,A,rfl⟩:=Qm h;have z:=run_equalIn_slice_nil (P:=F.P) w 9999 T E u l c (qA hT);refine OpWp.value (w':=w) (v:= .bool u.isNone) ?_ (Res.same (mS _ ρ S w));exact Vx (r:=u.isNone) (.inl ⟨rfl,rfl⟩) A rfl (by intros;simp) (by intros;simp) (by intros;simp) (by intros;simp) (by simp[eqGuard,Act.eval]) z
theorem Src.slN{α:Type}{e:Enc α}{v:Bool×List α}(h:cK σ.g y=some (.v (Enc.slN e) v)):Src σ y e v.2:=by
 intro ρ S a w K;have z:=K.slot y (by simp) _ h;simp only[Slot.ok] at z;obtain⟨A,B,C,D,u⟩:=rJ.1 (Qm z).1;refine⟨D.2,A,B,C,?_⟩;rcases u with u |⟨b,E,F,G,_,_,H,I⟩
 ·exact .inl u
 ·exact .inr ⟨b,E,F,G,H,I⟩
end
end Go.Sw
namespace Go.Sw
open Go Go.RowKit
def ZrN(cs:List Value)(l:List Slot)(new:List (Nat×Ent)):Prop:=∀ρ S w,(∀i en,aW new i=some en->ρ i= .of (.slice none 0 0))->aZ ρ S w l cs
theorem ZrN.nil{new:List (Nat×Ent)}:ZrN [] [] new:=fun _ _ _ _=>rfl
theorem ZrN.cons{cs:List Value}{l:List Slot}{new:List (Nat×Ent)}{α:Type}{e:Enc α}{z:α}{c:List Value}(h:∀S w,e.ok z S w c)(k:ZrN cs l new):ZrN (c++cs) (.v e z::l) new:=fun ρ S w u=>by
 simp only[aZ];exact⟨c,cs,rfl,by simp only[Slot.okc];exact h S w,k ρ S w u⟩
theorem ZrN.ref{cs:List Value}{l:List Slot}{new:List (Nat×Ent)}{en:Ent}(i:Nat)(hi:aW new i=some en)(k:ZrN cs l new):ZrN (.slice none 0 0::cs) (.ref i::l) new:=fun ρ S w h=>by
 simp only[aZ];exact⟨[.slice none 0 0],cs,rfl,by simp only[Slot.okc];rw[h i en hi];exact⟨.inl ⟨_,_,_,rfl⟩,rfl⟩,k ρ S w h⟩
inductive NilN:List (Nat×Ent)->Prop
 |nil:NilN []
 |cons {α:Type} {i:Nat} {T:TypeId} {e:Enc α} {r:List (Nat×Ent)}:NilN r->NilN ((i,.arr T e [])::r)
 |dp {α:Type} {i:Nat} {D:DE α} {x:α} {r:List (Nat×Ent)}:(∀S w,D.ok x S w (.of (.slice none 0 0)) [])->NilN r->NilN ((i,.dp D x [])::r)
theorem NilN.spec{new:List (Nat×Ent)}(h:NilN new):∀i en,aW new i=some en->∀ρ S w,en.ok ρ S w (.of (.slice none 0 0)):=by
 induction h with
 |nil=>intro i en h;simp[aW] at h
 |cons _ u=>
  rename_i α i T e r _;intro j en h;simp only[aW] at h;cases hb:Nat.beq i j with
  |true=>rw[hb] at h;simp at h;subst h;intro ρ S w;exact .inl ⟨rfl,rfl⟩
  |false=>rw[hb] at h;exact u j en h
 |dp z _ u=>
  rename_i α i D x r _;intro j en h;simp only[aW] at h;cases hb:Nat.beq i j with
  |true=>rw[hb] at h;simp at h;subst h;intro ρ S w;exact z S w
  |false=>rw[hb] at h;exact u j en h
section
variable {F:Frm}{σ:AS}{s:Slot}{d:Option Tmp}{ty:TypeId}{p:String}{af:Array Edge}{gd:Option (Nat×Bool)}{x y z:Operand}
theorem Ys{new:List (Nat×Ent)}{xs:Array Operand}{ρ:Nat->LV}{S:Nat->Prop}{a:Act}{w:World}(hn:NilN new)(hf:σ.free new=true)(K:Know σ xs ρ S a w):
  ∃ρ':Nat->LV,(∀i,aW new i=none->ρ' i=ρ i)/\(∀i en,aW new i=some en->ρ' i= .of (.slice none 0 0))/\Know σ xs ρ' S a w/\NewOk ρ' (Un S ρ' new) w w new/\Ext S (Un S ρ' new) w w:=by
 let ρ':Nat->LV:=fun i=>if (aW new i).isSome then .of (.slice none 0 0) else ρ i
 have D:∀i,aW new i=none->ρ' i=ρ i:=fun i h=>aAj (by simp[h]);have B:∀i en,aW new i=some en->ρ' i= .of (.slice none 0 0):=fun i en h=>aAn (by simp[h]);have F:=fun {i en} (h:aW new i=some en)=>kF hf h;have L:∀t s,lk σ.g t=some s->lP ρ ρ' s.lab:=by
  intro t s P j A;cases hl:aW new j with
  |none=>exact congrArg LV.v (D j hl)
  |some en=>exact absurd A ((F hl).1 t s P)
 have M:∀i en,aW σ.d i=some en->lP ρ ρ' en.lab:=by
  intro i en G j A;cases hl:aW new j with
  |none=>exact congrArg LV.v (D j hl)
  |some Q=>exact absurd A ((F hl).2.2 i en G)
 have N:∀x s,cK σ.g x=some s->lP ρ ρ' s.lab:=by
  intro x s z;cases x with
  |tmp t=>exact L t s z
  |const u=>have:=(Km z ρ S w).2;intro j A;rw[this] at A;simp at A
  |global g=>cases z
  |func f=>cases z
 refine⟨ρ',D,B,⟨K.low,fun x z s E=>Slot.ok_mono s _ (K.slot x z s E) (Ext.refl S w) (N x s E),fun x z s E i G en H=>?_⟩,⟨fun i en h=>?_,fun i en b h C=>?_,fun i j en Q b h X C _=>?_⟩,⟨aAi _,fun k _ R=>⟨rfl,?_⟩⟩⟩
 ·obtain⟨T,U⟩:=K.ent x z s E i G en H
  have O:ρ' i=ρ i:=D i (by
   cases hl:aW new i with
   |none=>rfl
   |some e=>have:=(F hl).2.1;rw[H] at this;cases this)
  rw[O];exact⟨Ent.ok_mono T (Ext.refl S w) (M i en H) (fun _ _=>rfl),U⟩
 ·rw[B i en h];exact hn.spec i en h _ _ _
 ·rw[B i en h] at C;simp[nY,blk] at C
 ·rw[B i en h] at C;simp[nY,blk] at C
 ·rintro (h |⟨i,en,V,I⟩)
  ·exact R h
  ·rw[B i en V] at I;simp[nY,blk] at I
theorem eT{T:TypeId}{pl:Array (Nat×Nat)}{zs:List Value}{ps:List (Nat×Operand)}{l l':List Slot}{new:List (Nat×Ent)}(hB:∀parts,F.P.built T parts=Instr.fill (pl[·]?) zs.toArray parts)(hz:ZrN zs l new)(hn:NilN new)(hf:σ.free new=true)(hp:Parts σ pl l ps l'):
  JO F ⟨d,.build T ps.toArray,ty,p,af,gd⟩ σ (.agg l') new:=by
 intro ρ S a w K;obtain⟨ρ',A,B,C,D,E⟩:=Ys hn hf K;obtain⟨h,G,H⟩:=hp.spec (ys:=(Op.build T ps.toArray).operands) (by intro x u;simp[Op.operands] at u ⊢;exact u) C zs (hz ρ' S w B);have z:(Slot.agg l').ok ρ' S w (.agg h.toArray):=by simp only[Slot.ok];exact⟨h,rfl,H⟩
 refine OpWp.value (w':=w) (v:= .agg h.toArray) ?_ ⟨ρ',A,Below.refl _ _,Slot.ok_mono _ _ z E (fun _ _=>rfl),D⟩;have:=run_build (P:=F.P) w T (ps.map fun q=>(q.1,a.eval q.2)).toArray h.toArray (by rw[hB];exact G);simp only[execOp,aDc];simp[this]
end
end Go.Sw
namespace Go.Sw
open Go Go.RowKit
structure Ins (S:Nat->Prop) (ρ:Nat->LV) (w:World) (din:List (Nat×Ent)):Prop where
 own:∀i en,aW din i=some en->en.ok ρ (Un S ρ din) w (ρ i)
 lt:∀i en b,aW din i=some en->pV (ρ i) b->b<w.heap.size
 apart:∀i en b,aW din i=some en->pV (ρ i) b->¬S b
 inj:∀i j en en' b,aW din i=some en->aW din j=some en'->pV (ρ i) b->pV (ρ j) b->i=j
structure Outs (S:Nat->Prop) (R:Nat->Prop) (w0:World) (res:Slot) (dout:List (Nat×Ent)) (ρ:Nat->LV) (v:Value) (w:World):Prop where
 size:w0.heap.size<=w.heap.size
 frame:∀k,k<w0.heap.size->¬R k->w.heap[k]? =w0.heap[k]?
 os:w.os=w0.os
 tape:w.tape=w0.tape
 output:w.output=w0.output
 slot:res.ok ρ (Un S ρ dout) w v
 own:∀i en,aW dout i=some en->en.ok ρ (Un S ρ dout) w (ρ i)
 fresh:∀i en b,aW dout i=some en->pV (ρ i) b->(w0.heap.size<=b\/R b)/\b<w.heap.size
 apart:∀i en b,aW dout i=some en->pV (ρ i) b->¬S b
 inj:∀i j en en' b,aW dout i=some en->aW dout j=some en'->pV (ρ i) b->pV (ρ j) b->i=j
def ConM(P:Program)(f:FuncId)(args:List Slot)(din:List (Nat×Ent))(res:Slot)(dout:List (Nat×Ent)):Prop:=
 ∀S w vs ρ,(∀k,S k->k<w.heap.size)->Ins S ρ w din->aV ρ (Un S ρ din) w args vs->Calls P f vs.toArray w fun e h=>∃v ρ',e= .returned v/\Outs S (lQ ρ din) w res dout ρ' v h
def yU(F:Frm)(fn:Func)(res:Slot)(dout:List (Nat×Ent)):Exit->Act->World->Prop:=
 bodyPostM Fence.wide 0 F.P fn fun e h=>∃v ρ',e= .returned v/\Outs F.S0 F.R F.w0 res dout ρ' v h
theorem ConM.of{P:Program}{f:FuncId}{fn:Func}{c:Code}{N:Nat}{args:List Slot}{din:List (Nat×Ent)}{res:Slot}{dout:List (Nat×Ent)}
  (hf:P.funcs[f]? =some fn) (hb:fn.body=some c) (hN:fn.ntmps=N) (hle:Nat.ble args.length N=true)
  (h:∀S w R,Fol ⟨P,N,S,w,R,none,[]⟩ ⟨P,N,S,w,R,none,[]⟩->W ⟨P,N,S,w,R,none,[]⟩ [c] ⟨enum 0 args,din⟩ (yU ⟨P,N,S,w,R,none,[]⟩ fn res dout)):ConM P f args din res dout:=by
 intro S w vs ρ hlow hin hv;refine(callsIn_wide (n:=0)).1 (callsIn_of_wp_marks hf hb trivial ?_);have G:=Fv hv;have hle:=aAd hle;have B:St ⟨P,N,S,w,lQ ρ din,none,[]⟩ ⟨enum 0 args,din⟩ { tmps:=vs.toArray++Array.replicate (fn.ntmps - vs.toArray.size) undef,defers:=[] } w:= ?_
 ·have z:c.wpIn Fence.wide 0 P (Exit.then (run Fence.wide P (yU ⟨P,N,S,w,lQ ρ din,none,[]⟩ fn res dout) []) (yU ⟨P,N,S,w,lQ ρ din,none,[]⟩ fn res dout)) { tmps:=vs.toArray++Array.replicate (fn.ntmps - vs.toArray.size) undef,defers:=[] } w:=h S w _ (.refl hlow rfl) _ w B;refine wpIn_mono z ?_;intro e a H D;cases e<;>exact D
 ·refine⟨⟨ρ,⟨hlow,aAi _,fun _ _ _=>rfl,rfl,rfl,rfl,hin.own,fun i A b h hb=>⟨.inr ⟨i,A,h,hb⟩,hin.lt i A b h hb⟩,hin.inj,hin.apart⟩,fun t s E=>?_⟩,?_,rfl⟩
  ·obtain⟨_,u,z,F⟩:=Ko args vs 0 hv t s E;have C:t<vs.length:=by
    rcases aBc t vs.length with h | h
    ·exact h
    ·simp[aAv h] at z
   have:(vs.toArray++Array.replicate (fn.ntmps - vs.toArray.size) undef).getD t undef=u:=by
    simp only[aA7];rw[aDl (by simpa using C)];simp only[Nat.sub_zero] at z;simp[z]
   rw[this];exact F
  ·simp only[aEi,aEj,aD7];show _=N;omega
theorem Outs.of_core{F:Frm}{σ:AS}{ρ:Nat->LV}{w:World}{v:Value}{res:Slot}{dout:List (Nat×Ent)}(hc:Core F σ.d ρ w)(hr:res.ok ρ (Un F.S0 ρ σ.d) w v)(hn:SubE dout σ.d):Outs F.S0 F.R F.w0 res dout ρ v w:=by
 have z:=hn.spec
 have B:Ext (Un F.S0 ρ σ.d) (Un F.S0 ρ dout) w w:=⟨aAi _,fun k _ D=>⟨rfl,fun h=>D (by
  rcases h with h |⟨i,u,K,L⟩
  ·exact .inl h
  ·exact .inr ⟨i,u,z i u K,L⟩)⟩⟩
 exact⟨hc.size,hc.frame,hc.os,hc.tape,hc.output,Slot.ok_mono res v hr B (fun _ _=>rfl),fun i u h=>Ent.ok_mono (hc.own i u (z i u h)) B (fun _ _=>rfl) (fun _ _=>rfl),
  fun i u b h A=>hc.fresh i u b (z i u h) A,fun i u b h A=>hc.apart i u b (z i u h) A,fun i j u C b E G H I=>hc.inj i j u C b (z i u E) (z j C G) H I⟩
theorem Sp{P:Program}{fn:Func}{a:Act}{w:World}(hrs:fn.results= #[]):(results fn a.tmps).run P w= .ok (.tuple #[]) w:=by rw[wI,hrs];simp
section
variable {F F':Frm}{σ:AS}{fn:Func}{rv rv' rv2:ResultVar}{res s s' s2:Slot}{dout:List (Nat×Ent)}
theorem EL(hF:Fol F F')(hrs:fn.results= #[])(hn:SubE dout σ.d):XQ F' σ (yU F fn (.tup []) dout) .ret:=
 xM hF fun ρ a w h u=>⟨_,Sp hrs,_,ρ,rfl,Outs.of_core h (by simp only[Slot.ok];exact⟨[],rfl,by simp only[aV]⟩) hn⟩
theorem dN(hF:Fol F F')(hrs:fn.results= #[rv])(h:RV F σ rv res)(hn:SubE dout σ.d):XQ F' σ (yU F fn res dout) .ret:=
 xM hF fun ρ a w u z=>by
  obtain⟨v,A,B⟩:=h ρ a w u z;exact⟨v,Sg hrs A,v,ρ,rfl,Outs.of_core u B hn⟩
theorem dA(hF:Fol F F')(hrs:fn.results= #[rv,rv'])(h:RV F σ rv s)(h':RV F σ rv' s')(hn:SubE dout σ.d):XQ F' σ (yU F fn (.tup [s,s']) dout) .ret:=
 xM hF fun ρ a w u z=>by
  obtain⟨v,A,B⟩:=h ρ a w u z;obtain⟨E,C,D⟩:=h' ρ a w u z;exact⟨_,Sh hrs A C,_,ρ,rfl,Outs.of_core u (PO B D) hn⟩
theorem EM(hF:Fol F F')(hrs:fn.results= #[rv,rv',rv2])(h:RV F σ rv s)(h':RV F σ rv' s')(h'':RV F σ rv2 s2)(hn:SubE dout σ.d):XQ F' σ (yU F fn (.tup [s,s',s2]) dout) .ret:=
 xM hF fun ρ a w u z=>by
  obtain⟨v,A,B⟩:=h ρ a w u z;obtain⟨H,C,D⟩:=h' ρ a w u z;obtain⟨I,E,G⟩:=h'' ρ a w u z;exact⟨_,Si hrs A C E,_,ρ,rfl,Outs.of_core u (PQ B D G) hn⟩
end
end Go.Sw
namespace Go.Sw
open Go Go.RowKit
inductive DinR (σ:AS) (r:Nat->Nat) (A:Nat->Nat):List (Nat×Ent)->Prop
 |nil:DinR σ r A []
 |box {i:Nat} {T:TypeId} {l:List Slot} {pb:Option Nat} {ds:List (Nat×Ent)}:aW σ.d (r i)=some (.box T (eS r l) pb)->DinR σ r A ds->DinR σ r A ((i,.box T l (some (A i)))::ds)
 |arr {α:Type} {i:Nat} {T:TypeId} {e:Enc α} {xs:List α} {ds:List (Nat×Ent)}:aW σ.d (r i)=some (.arr T e xs)->DinR σ r A ds->DinR σ r A ((i,.arr T e xs)::ds)
 |mp {α β:Type} {i:Nat} {e:Enc α} {f:Enc β} {m:List (α×β)} {ds:List (Nat×Ent)}:aW σ.d (r i)=some (.mp e f m)->DinR σ r A ds->DinR σ r A ((i,.mp e f m)::ds)
 |dp {α:Type} {i:Nat} {D:DE α} {x:α} {l:List Nat} {ds:List (Nat×Ent)}:aW σ.d (r i)=some (.dp D x (l.map r))->DinR σ r A ds->DinR σ r A ((i,.dp D x l)::ds)
theorem DinR.spec{σ:AS}{r:Nat->Nat}{A:Nat->Nat}{ds:List (Nat×Ent)}(h:DinR σ r A ds){ρ:Nat->LV}{S:Nat->Prop}{w:World}(ho:∀i en,aW σ.d i=some en->en.ok ρ S w (ρ i))(hA:∀i b,(ρ (r i)).v= .pointer (some ⟨b,0,none⟩)->A i=b):
  ∀i en,aW ds i=some en->(∃en0,aW σ.d (r i)=some en0)/\en.ok (fun i=>ρ (r i)) S w (ρ (r i)):=by
 induction h with
 |nil=>intro i en h;simp[aW] at h
 |box u _ B=>
  rename_i j T l G ds _;intro i en h;rw[bV] at h;split at h
  ·rename_i z;subst z;cases h;have F:=ho _ _ u;refine⟨⟨_,u⟩,?_⟩;have C:((Ent.box T l G).map r).ok ρ S w (ρ (r j)):=F;rw[Fx] at C;obtain⟨⟨b,I,E,K,L⟩,_⟩:=C;exact⟨⟨b,I,E,K,L⟩,fun c H=>by cases H;rw[E,hA j b E]⟩
  ·exact B i en h
 |arr u _ B=>
  rename_i j T e xs ds _;intro i en h;rw[bV] at h;split at h
  ·rename_i z;subst z;cases h;exact⟨⟨_,u⟩,ho _ _ u⟩
  ·exact B i en h
 |mp u _ B=>
  rename_i j e f m ds _;intro i en h;rw[bV] at h;split at h
  ·rename_i z;subst z;cases h;exact⟨⟨_,u⟩,ho _ _ u⟩
  ·exact B i en h
 |dp u _ B=>
  rename_i j D x l ds _;intro i en h;rw[bV] at h;split at h
  ·rename_i z;subst z;cases h;refine⟨⟨_,u⟩,?_⟩;have C:((Ent.dp D x l).map r).ok ρ S w (ρ (r j)):=ho _ _ u
   rwa [Fx] at C
  ·exact B i en h
def gV(l:Nat):List Nat->Bool
 | []=>false
 |i::r=>bif Nat.beq i l then true else gV l r
theorem iK{l:Nat}:∀{r:List Nat},gV l r=true↔l∈r
 | []=>by simp[gV]
 |i::r=>by
  simp only[gV];cases hb:Nat.beq i l with
  |true=>have:=aAb hb;subst this;simp
  |false=>
   have:l≠i:=fun e=>by subst e;simp at hb
   simp[iK,this]
inductive DoutR (σ:AS) (r:Nat->Nat) (A:Nat->Nat):List (Nat×Ent)->List (Nat×Ent)->List Nat->Prop
 |nil:DoutR σ r A [] [] []
 |box {i:Nat} {T T0:TypeId} {l l0:List Slot} {pb:Option Nat} {ds D:List (Nat×Ent)} {K:List Nat}:aW σ.d (r i)=some (.box T0 l0 pb)->DoutR σ r A ds D K->gV (r i) K=false->DoutR σ r A ((i,.box T l (some (A i)))::ds) ((r i,.box T (eS r l) pb)::D) (r i::K)
 |boxN {i:Nat} {T:TypeId} {l:List Slot} {ds D:List (Nat×Ent)} {K:List Nat}:DoutR σ r A ds D K->gV (r i) K=false->DoutR σ r A ((i,.box T l none)::ds) ((r i,.box T (eS r l) none)::D) K
 |arr {α:Type} {i:Nat} {T:TypeId} {e:Enc α} {xs:List α} {ds D:List (Nat×Ent)} {K:List Nat}:DoutR σ r A ds D K->gV (r i) K=false->DoutR σ r A ((i,.arr T e xs)::ds) ((r i,.arr T e xs)::D) K
 |mp {α β:Type} {i:Nat} {e:Enc α} {f:Enc β} {m:List (α×β)} {ds D:List (Nat×Ent)} {K:List Nat}:DoutR σ r A ds D K->gV (r i) K=false->DoutR σ r A ((i,.mp e f m)::ds) ((r i,.mp e f m)::D) K
 |dp {α:Type} {i:Nat} {E:DE α} {x:α} {l:List Nat} {ds D:List (Nat×Ent)} {K:List Nat}:DoutR σ r A ds D K->gV (r i) K=false->DoutR σ r A ((i,.dp E x l)::ds) ((r i,.dp E x (l.map r))::D) K
theorem DoutR.spec{σ:AS}{r:Nat->Nat}{A:Nat->Nat}{ds D:List (Nat×Ent)}{K:List Nat}(h:DoutR σ r A ds D K)(hinj:∀i j,r i=r j->i=j):
  (∀l en',aW D l=some en'->∃i en,l=r i/\aW ds i=some en/\(en'=en.map r\/∃T T0 m l0 pb,en= .box T m (some (A i))/\en'= .box T (eS r m) pb/\aW σ.d (r i)=some (.box T0 l0 pb)))/\
  (∀i en,aW ds i=some en->∃en',aW D (r i)=some en')/\(∀k∈K,∃i T m T0 l0 pb,k=r i/\aW ds i=some (.box T m (some (A i)))/\aW σ.d k=some (.box T0 l0 pb)):=by
 have step:∀{i:Nat} {en en':Ent} {ds D:List (Nat×Ent)},((∀l en',aW D l=some en'->∃i en,l=r i/\aW ds i=some en/\(en'=en.map r\/∃T T0 m l0 pb,en= .box T m (some (A i))/\en'= .box T (eS r m) pb/\aW σ.d (r i)=some (.box T0 l0 pb)))/\(∀i en,aW ds i=some en->∃en',aW D (r i)=some en'))->
   (en'=en.map r\/∃T T0 m l0 pb,en= .box T m (some (A i))/\en'= .box T (eS r m) pb/\aW σ.d (r i)=some (.box T0 l0 pb))->
   ((∀l B,aW ((r i,en')::D) l=some B->∃j C,l=r j/\aW ((i,en)::ds) j=some C/\(B=C.map r\/∃T T0 m l0 pb,C= .box T m (some (A j))/\B= .box T (eS r m) pb/\aW σ.d (r j)=some (.box T0 l0 pb)))/\
    (∀j C,aW ((i,en)::ds) j=some C->∃B,aW ((r i,en')::D) (r j)=some B)):=by
  rintro i en en' ds D ⟨U,V⟩ X;refine⟨fun l B H=>?_,fun j C M=>?_⟩
  ·rw[bV] at H;split at H
   ·rename_i I;subst I;cases H;exact⟨i,en,rfl,by rw[bV,aAn rfl],X⟩
   ·rename_i I;obtain⟨j,C,rfl,P,Q⟩:=U l B H;exact⟨j,C,rfl,by rw[bV,aAj (fun e=>I (by rw[e]))];exact P,Q⟩
  ·rw[bV] at M;split at M
   ·rename_i L;subst L;exact⟨en',by rw[bV,aAn rfl]⟩
   ·rename_i L;obtain⟨B,R⟩:=V j C M;exact⟨B,by rw[bV,aAj (fun e=>L (hinj _ _ e))];exact R⟩
 have G:∀{i:Nat} {en:Ent} {ds:List (Nat×Ent)} {K:List Nat},gV (r i) K=false->(∀k∈K,∃i T m T0 l0 pb,k=r i/\aW ds i=some (.box T m (some (A i)))/\aW σ.d k=some (.box T0 l0 pb))->∀k∈K,∃j T m T0 l0 pb,k=r j/\aW ((i,en)::ds) j=some (.box T m (some (A j)))/\aW σ.d k=some (.box T0 l0 pb):=by
  intro i en ds K z u k F;obtain⟨j,T,m,T0,l0,pb,rfl,h,S⟩:=u k F;have O:i≠j:=fun e=>by subst e;rw[iK.2 F] at z;cases z
  exact⟨j,T,m,T0,l0,pb,rfl,by rw[bV,aAj O];exact h,S⟩
 induction h with
 |nil=>exact⟨fun l en h=>by simp[aW] at h,fun i en h=>by simp[aW] at h,fun k h=>by simp at h⟩
 |box N _ z u=>
  rename_i i T T0 l l0 pb ds D K _;obtain⟨a,b⟩:=step (i:=i) (en:= .box T l (some (A i))) (en':= .box T (eS r l) pb) ⟨u.1,u.2.1⟩ (.inr ⟨T,T0,l,l0,pb,rfl,rfl,N⟩);refine⟨a,b,fun k F=>?_⟩;rcases aAo.1 F with rfl | F
  ·exact⟨i,T,l,T0,l0,pb,rfl,by rw[bV,aAn rfl],N⟩
  ·exact G z u.2.2 k F
 |boxN _ z u=>
  rename_i i T l ds D K _;obtain⟨a,b⟩:=step (i:=i) (en:= .box T l none) (en':= .box T (eS r l) none) ⟨u.1,u.2.1⟩ (.inl rfl);exact⟨a,b,G z u.2.2⟩
 |arr _ z u=>
  rename_i α i T e xs ds D K _;obtain⟨a,b⟩:=step (i:=i) (en:= .arr T e xs) (en':= .arr T e xs) ⟨u.1,u.2.1⟩ (.inl rfl);exact⟨a,b,G z u.2.2⟩
 |mp _ z u=>
  rename_i α β i e f m ds D K _;obtain⟨a,b⟩:=step (i:=i) (en:= .mp e f m) (en':= .mp e f m) ⟨u.1,u.2.1⟩ (.inl rfl);exact⟨a,b,G z u.2.2⟩
 |dp _ z u=>
  rename_i α i E x l ds D K _;obtain⟨a,b⟩:=step (i:=i) (en:= .dp E x l) (en':= .dp E x (l.map r)) ⟨u.1,u.2.1⟩ (.inl rfl);exact⟨a,b,G z u.2.2⟩
def iH(d:List (Nat×Ent)):List Nat->List (Nat×Ent)
 | []=>d
 |i::H=>vE (iH d H) i
theorem pD{d:List (Nat×Ent)}{k:Nat}:∀{H:List Nat},aW (iH d H) k=if k∈H then none else aW d k
 | []=>by simp[iH]
 |i::H=>by
  rw[iH,Jy];by_cases h:k=i
  ·simp[h]
  ·rw[aAj h,pD];simp[h]
def Ac(g:List (Nat×Slot))(rest:List (Nat×Ent))(H K:List Nat)(D:List (Nat×Ent)):Bool:=
 (g.all fun y=>y.2.lab.all fun l=> !gV l H || gV l K || !gV l (D.map (·.1))) && rest.all fun y=>y.2.lab.all fun l=> !gV l H || gV l K || !gV l (D.map (·.1))
def Nl(σ:AS)(H:List Nat)(D:List (Nat×Ent)):Bool:=
 D.all fun x=>gV x.1 H || ((σ.d.all fun y=> !Nat.beq y.1 x.1 && !gV x.1 y.2.lab) && σ.g.all fun y=> !gV x.1 y.2.lab)
inductive ArgsM (σ:AS) (r:Nat->Nat):List Operand->List Slot->Prop
 |nil:ArgsM σ r [] []
 |cons {x:Operand} {s:Slot} {xs:List Operand} {l:List Slot}:Arg σ false x (s.map r)->ArgsM σ r xs l->ArgsM σ r (x::xs) (s::l)
theorem ArgsM.spec{σ:AS}{r:Nat->Nat}{xs:List Operand}{l:List Slot}(h:ArgsM σ r xs l){ρ S a w}{ys:Array Operand}(hys:∀x∈xs,x∈ys)(K:Know σ ys ρ S a w):aV (fun i=>ρ (r i)) S w l (xs.map a.eval):=by
 induction h with
 |nil=>simp[aV]
 |cons z _ A=>
  rename_i x s xs l _;simp only[aV,aAx];refine⟨_,_,rfl,?_,A fun y u=>hys y (aAz _ u)⟩;rw[<-Ks];exact z ρ S a w ⟨K.low,fun y u=>K.slot y (by simp at u;subst u;exact hys _ aA6),fun y u=>K.ent y (by simp at u;subst u;exact hys _ aA6)⟩
def adr(v:Value):Nat:=match v with | .pointer (some a)=>a.block | _=>0
section
variable {F:Frm}{σ:AS}{s:Slot}{d:Option Tmp}{ty:TypeId}{p:String}{af:Array Edge}{gd:Option (Nat×Bool)}
theorem St.callM{ρ ρ':Nat->LV}{r:Nat->Nat}{A:Nat->Nat}{a:Act}{w w':World}{v:Value}{res:Slot}{din dout D:List (Nat×Ent)}{K H:List Nat}(hr:∀i j,r i=r j->i=j)(hc:Core F σ.d ρ w)
  (hs:∀t s,lk σ.g t=some s->s.ok ρ (Un F.S0 ρ σ.d) w (a.tmps.getD t undef)) (hz:a.tmps.size=F.N) (hde:a.defers=F.df) (hA:∀i b,(ρ (r i)).v= .pointer (some ⟨b,0,none⟩)->A i=b) (hin:DinR σ r A din) (hout:DoutR σ r A dout D K)
  (hH:din.map (fun x=>r x.1)=H) (hst:Ac σ.g (iH σ.d H) H K D=true) (hnew:Nl σ H D=true) (hcl:kJ res dout=true) (hKH:K.all (fun k=>gV k H)=true) (hdst:gA d F.N=true)
  (ho:Outs (fun k=>Un F.S0 ρ σ.d k/\¬lQ (fun i=>ρ (r i)) din k) (lQ (fun i=>ρ (r i)) din) w res dout ρ' v w'):St F ⟨hX d (res.map r) σ.g,D++iH σ.d H⟩ (a.put d v) w':=by
 obtain⟨ad,bg,bh⟩:=hout.spec hr;have aq:=hin.spec hc.own hA;have au:∀i en,aW din i=some en->r i∈H:=fun i en h=>by rw[<-hH];exact aBn.2 ⟨(i,en),lR h,rfl⟩
 have av:∀l,l∈H->∃i en,l=r i/\(i,en)∈din:=fun l h=>by rw[<-hH] at h;obtain⟨x,B,z⟩:=aBn.1 h;exact⟨x.1,x.2,z.symm,B⟩
 have bn:∀l,l∈H->∃i en,l=r i/\aW din i=some en:=fun l h=>by
  obtain⟨i,en,B,z⟩:=av l h;cases hx:aW din i with
  |some e=>exact⟨i,e,B,hx⟩
  |none=>
   exfalso;clear hin aq hH ho au av
   induction din with
   |nil=>simp at z
   |cons y din ih=>
    obtain⟨j,ej⟩:=y;rw[bV] at hx;split at hx
    ·cases hx
    ·rename_i be;rcases aAo.1 z with z | z
     ·simp at z;exact be z.1.symm
     ·exact ih z hx
 have ae:∀k,lQ (fun i=>ρ (r i)) din k->∃l en,l∈H/\aW σ.d l=some en/\pV (ρ l) k:=by
  rintro k ⟨i,en,B,z⟩;obtain⟨⟨bi,u⟩,_⟩:=aq i en B;exact⟨r i,bi,au i en B,u,z⟩
 have aw:∀k,lQ (fun i=>ρ (r i)) din k->Un F.S0 ρ σ.d k:=fun k h=>by obtain⟨l,en,_,B,z⟩:=ae k h;exact .inr ⟨l,en,B,z⟩
 have am:∀l en k,l∉H->aW σ.d l=some en->pV (ρ l) k->¬lQ (fun i=>ρ (r i)) din k:=by
  intro l en k Q B z u;obtain⟨M,C,E,G,L⟩:=ae k u;exact Q (hc.inj l M en C k B G z L ▸ E)
 classical
 let ρn:Nat->LV:=fun l=>if h:∃i,l=r i/\(aW dout i).isSome=true then ρ' (Classical.choose h) else ρ l
 have R:∀i en,aW dout i=some en->ρn (r i)=ρ' i:=by
  intro i en h;have aj:∃j,r i=r j/\(aW dout j).isSome=true:=⟨i,rfl,by rw[h];rfl⟩
  show (if h:∃j,r i=r j/\(aW dout j).isSome=true then ρ' (Classical.choose h) else ρ (r i))=_;rw[dif_pos aj];have:=aD1 aj;rw[<-hr _ _ this.1]
 have ak:∀l,(∀en,aW D l≠some en)->ρn l=ρ l:=by
  intro l h;have aj:¬∃i,l=r i/\(aW dout i).isSome=true:=by
   rintro⟨i,rfl,z⟩;cases hx:aW dout i with
   |none=>rw[hx] at z;cases z
   |some en=>obtain⟨C,u⟩:=bg i en hx;exact h _ u
  show (if h:∃i,l=r i/\(aW dout i).isSome=true then ρ' (Classical.choose h) else ρ l)=_;rw[dif_neg aj]
 have hK:∀l,l∈K->(ρn l).v=(ρ l).v:=by
  intro l Q;obtain⟨i,T,m,T0,l0,pb,rfl,B,z⟩:=bh l Q;have a2:=(ho.own i _ B).2 (A i) rfl;obtain⟨⟨b,cs,X,_⟩,_⟩:=hc.own _ _ z;rw[R i _ B,a2,X,hA i b X]
 have a3:∀l,gV l (D.map (·.1))=false->∀en,aW D l≠some en:=fun l h en S=>by
  have B:l∈D.map (·.1):=aBn.2 ⟨(l,en),lR S,rfl⟩;rw[iK.2 B] at h;cases h
 have a4:∀(q:Slot),(q.lab.all fun l=> !gV l H || gV l K || !gV l (D.map (·.1)))=true->(∀l∈q.lab,aW D l=none\/gV l H=true)->lP ρ ρn q.lab:=by
  intro q B z l Q;rcases z l Q with u | u
  ·exact congrArg LV.v (ak l fun en S=>by rw[u] at S;cases S)
  ·have:=aAh.1 B l Q;rw[u] at this;cases hm:gV l (D.map (·.1)) with
   |false=>exact congrArg LV.v (ak l (a3 l hm))
   |true=>rw[hm] at this;exact hK l (iK.1 (by simpa using this))
 have an:∀l en,aW D l=some en->gV l H=true\/((∀y∈σ.d,y.1≠l/\l∉y.2.lab)/\∀y∈σ.g,l∉y.2.lab):=by
  intro l en h;have:=aAh.1 hnew _ (lR h);rcases Bool.or_eq_true_iff.1 this with h | h
  ·exact .inl h
  ·rw[aAr,aAh,aAh] at h;refine .inr ⟨fun y hy=>?_,fun y hy ap=>?_⟩
   ·have u:=h.1 y hy;rw[aAr] at u;refine⟨fun e=>?_,fun ap=>?_⟩
    ·have:=u.1;rw[e] at this;simp at this
    ·have:=u.2;rw[iK.2 ap] at this;cases this
   ·have:=h.2 y hy;rw[iK.2 ap] at this;cases this
 simp only[Ac,aAr,aAh] at hst;have a5:∀t s,lk σ.g t=some s->lP ρ ρn s.lab:=by
  intro t s O;refine a4 s (aAh.2 (hst.1 _ (Kn O))) fun l Q=>?_;cases hx:aW D l with
  |none=>exact .inl rfl
  |some en=>
   rcases an l en hx with h |⟨_,h⟩
   ·exact .inr h
   ·exact absurd Q (h _ (Kn O))
 have ab:∀l en,l∉H->aW σ.d l=some en->ρn l=ρ l/\lP ρ ρn en.lab:=by
  intro l en Q h;refine⟨ak l fun C S=>?_,?_⟩
  ·rcases an l C S with P |⟨P,_⟩
   ·exact Q (iK.1 P)
   ·exact(P _ (lR h)).1 rfl
  ·have a6:(l,en)∈iH σ.d H:=lR (by rw[pD,aAj Q];exact h);have:=hst.2 _ a6;intro q hq;have B:=this q hq;cases hx:aW D q with
   |none=>exact congrArg LV.v (ak q fun en S=>by rw[hx] at S;cases S)
   |some C=>
    rcases an q C hx with P |⟨P,_⟩
    ·have a7:q∈D.map (·.1):=aBn.2 ⟨(q,C),lR hx,rfl⟩;rw[P,iK.2 a7] at B;exact hK q (iK.1 (by simpa using B))
    ·exact absurd hq (P _ (lR h)).2
 have ac:∀l en,aW (D++iH σ.d H) l=some en->aW D l=some en\/(aW D l=none/\l∉H/\aW σ.d l=some en):=by
  intro l en h;rw[fV] at h;cases hx:aW D l with
  |some e=>rw[hx] at h;simp at h;subst h;exact .inl rfl
  |none=>
   rw[hx] at h;simp only[Option.none_or,pD] at h;split at h
   ·cases h
   ·rename_i hn;exact .inr ⟨rfl,hn,h⟩
 have ax:∀k,Un F.S0 ρn (D++iH σ.d H) k->Un (fun k=>Un F.S0 ρ σ.d k/\¬lQ (fun i=>ρ (r i)) din k) ρ' dout k:=by
  rintro k (h |⟨l,en,B,z⟩)
  ·refine .inl ⟨.inl h,fun P=>?_⟩;obtain⟨l,en,_,u,E⟩:=ae k P;exact hc.apart l en k u E h
  ·rcases ac l en B with u |⟨_,u,E⟩
   ·obtain⟨i,C,rfl,G,_⟩:=ad l en u;rw[R i C G] at z;exact .inr ⟨i,C,G,z⟩
   ·rw[(ab l en u E).1] at z;exact .inl ⟨.inr ⟨l,en,E,z⟩,am l en k u E z⟩
 have a8:∀k,k<w.heap.size->Un (fun k=>Un F.S0 ρ σ.d k/\¬lQ (fun i=>ρ (r i)) din k) ρ' dout k->Un F.S0 ρ σ.d k:=by
  rintro k U (h |⟨i,en,B,z⟩)
  ·exact h.1
  ·rcases (ho.fresh i en k B z).1 with h | h
   ·omega
   ·exact aw k h
 have ay:Ext (Un (fun k=>Un F.S0 ρ σ.d k/\¬lQ (fun i=>ρ (r i)) din k) ρ' dout) (Un F.S0 ρn (D++iH σ.d H)) w' w':=⟨aAi _,fun k _ U=>⟨rfl,fun h=>U (ax k h)⟩⟩
 have hE:Ext (Un F.S0 ρ σ.d) (Un F.S0 ρn (D++iH σ.d H)) w w':=⟨ho.size,fun k U hn=>⟨ho.frame k U (fun h=>hn (aw k h)),fun h=>hn (a8 k U (ax k h))⟩⟩
 simp only[kJ,aAr,aAh] at hcl;have a9:∀i en,aW dout i=some en->lP ρ' (fun i=>ρn (r i)) en.lab:=by
  intro i en h j hj;have:=hcl.2 _ (lR h) j hj;cases hx:aW dout j with
  |none=>rw[hx] at this;cases this
  |some e=>exact congrArg LV.v (R j e hx)
 have ba:Core F (D++iH σ.d H) ρn w':=by
  refine⟨hc.low,aBq hc.size ho.size,fun k U a1=>?_,ho.os.trans hc.os,ho.tape.trans hc.tape,ho.output.trans hc.output,fun l en h=>?_,fun l en b h I=>?_,fun l M en C b h P I V=>?_,fun l en b h I=>?_⟩
  ·rw[ho.frame k (aAy U hc.size) (fun h=>?_)]
   ·exact hc.frame k U a1
   ·obtain⟨l,en,_,B,z⟩:=ae k h;rcases (hc.fresh l en k B z).1 with u | u
    ·omega
    ·exact a1 u
  ·rcases ac l en h with u |⟨_,u,E⟩
   ·obtain⟨i,C,rfl,G,L⟩:=ad l en u;have h7:=Ent.ok_mono (ρ':=fun i=>ρn (r i)) (ho.own i C G) ay (a9 i C G) (fun _ _=>rfl);rw[R i C G];rcases L with L |⟨T,T0,m,l0,pb,X,h9,bm⟩
    ·rw[L,Fx];exact h7
    ·subst X h9;obtain⟨bj,bk⟩:=h7;have bb:((Ent.box T m none).map r).ok ρn (Un F.S0 ρn (D++iH σ.d H)) w' (ρ' i):=by rw[Fx];exact⟨bj,fun c hc=>by cases hc⟩
     refine⟨bb.1,fun c bf=>?_⟩;obtain⟨_,bl⟩:=hc.own _ _ bm;have bc:=bl c bf;rw[bk (A i) rfl,hA i c bc]
   ·obtain⟨G,L⟩:=ab l en u E;rw[G];exact Ent.ok_mono (hc.own l en E) hE L (fun b I=>ho.frame b (hc.fresh l en b E I).2 (am l en b u E I))
  ·rcases ac l en h with u |⟨_,u,E⟩
   ·obtain⟨i,C,rfl,G,_⟩:=ad l en u;rw[R i C G] at I;obtain⟨L,h7⟩:=ho.fresh i C b G I;refine⟨?_,h7⟩;rcases L with L | L
    ·exact .inl (aBq hc.size L)
    ·obtain⟨M,e',_,X,h9⟩:=ae b L;exact(hc.fresh M e' b X h9).1
   ·rw[(ab l en u E).1] at I;exact⟨(hc.fresh l en b E I).1,aAy (hc.fresh l en b E I).2 ho.size⟩
  ·have az:∀i ao l2 al,aW dout i=some ao->pV (ρ' i) b->l2∉H->aW σ.d l2=some al->pV (ρ l2) b->False:=by
    intro i ao l2 al B z u E G;rcases (ho.fresh i ao b B z).1 with L | L
    ·have:=(hc.fresh l2 al b E G).2;omega
    ·exact am l2 al b u E G L
   rcases ac l en h with u |⟨_,u,E⟩
   ·obtain⟨i,e1,rfl,G,_⟩:=ad l en u;rw[R i e1 G] at I;rcases ac M C P with aa |⟨_,aa,ai⟩
    ·obtain⟨i',af,rfl,ah,_⟩:=ad M C aa;rw[R i' af ah] at V;rw[ho.inj i i' e1 af b G ah I V]
    ·rw[(ab M C aa ai).1] at V;exact(az i e1 M C G I aa ai V).elim
   ·rw[(ab l en u E).1] at I;rcases ac M C P with aa |⟨_,aa,ai⟩
    ·obtain⟨i',af,rfl,ah,_⟩:=ad M C aa;rw[R i' af ah] at V;exact(az i' af l en ah V u E I).elim
    ·rw[(ab M C aa ai).1] at V;exact hc.inj l M en C b E ai I V
  ·rcases ac l en h with u |⟨_,u,E⟩
   ·obtain⟨i,C,rfl,G,_⟩:=ad l en u;rw[R i C G] at I;intro L;refine ho.apart i C b G I ⟨.inl L,fun h7=>?_⟩;obtain⟨M,e',_,X,h9⟩:=ae b h7;exact hc.apart M e' b X h9 L
   ·rw[(ab l en u E).1] at I;exact hc.apart l en b E I
 refine⟨⟨ρn,ba,fun t q O=>?_⟩,by rw[kG,hz],by cases d<;>exact hde⟩;have a0:∀t q,lk σ.g t=some q->q.ok ρn (Un F.S0 ρn (D++iH σ.d H)) w' (a.tmps.getD t undef):=fun t q O=>Slot.ok_mono q _ (hs t q O) hE (a5 t q O);cases d with
 |none=>exact a0 t q O
 |some q0=>
  simp only[hX] at O;have bd:q0<a.tmps.size:=by rw[hz];exact aAd hdst
  rw[kH a q0 v t bd];rw[lK] at O;split at O
  ·rename_i B;cases O;rw[aAn B,Ks];refine Slot.ok_mono res v ho.slot ay fun j hj=>?_;have:=hcl.1 j hj;cases hx:aW dout j with
   |none=>rw[hx] at this;cases this
   |some e=>exact congrArg LV.v (R j e hx)
  ·rename_i B;rw[aAj B];exact a0 t q O
theorem sZ{f:FuncId}{xs:List Operand}{ts:Array TypeId}{ss:List Slot}{res:Slot}{din dout:(Nat->Nat)->List (Nat×Ent)}{D:List (Nat×Ent)}{K H:List Nat}(r:Nat->Nat)(hr:∀i j,r i=r j->i=j)
  (hc:∀A,ConM F.P f ss (din A) res (dout A)) (hcall:∀args w,(callFunc f args).run F.P w= .ok (.enter f args) w) (ha:ArgsM σ r xs ss) (hin:∀A,DinR σ r A (din A)) (hout:∀A,DoutR σ r A (dout A) D K)
  (hH:∀A,(din A).map (fun x=>r x.1)=H) (hst:Ac σ.g (iH σ.d H) H K D=true) (hnew:Nl σ H D=true) (hcl:∀A,kJ res (dout A)=true) (hKH:K.all (fun k=>gV k H)=true) (hdst:gA d F.N=true):
  JM F ⟨d,.call ⟨.value (.func f),xs.toArray,ts⟩,ty,p,af,gd⟩ σ ⟨hX d (res.map r) σ.g,D++iH σ.d H⟩:=by
 rintro a w ⟨⟨ρ,z,R⟩,hz,aa⟩;let A:Nat->Nat:=fun i=>adr (ρ (r i)).v
 have O:∀i b,(ρ (r i)).v= .pointer (some ⟨b,0,none⟩)->A i=b:=fun i b h=>by show adr (ρ (r i)).v=b;rw[h];rfl
 have B:=(hin A).spec z.own O;have S:∀k,(Un F.S0 ρ σ.d k/\¬lQ (fun i=>ρ (r i)) (din A) k)->k<w.heap.size:=by
  rintro k ⟨h |⟨i,u,L,M⟩,_⟩
  ·exact aAy (z.low k h) z.size
  ·exact(z.fresh i u k L M).2
 have Q:Un (fun k=>Un F.S0 ρ σ.d k/\¬lQ (fun i=>ρ (r i)) (din A) k) (fun i=>ρ (r i)) (din A)=Un F.S0 ρ σ.d:=by
  funext k;refine propext ⟨fun h=>?_,fun h=>?_⟩
  ·rcases h with h |⟨i,u,L,M⟩
   ·exact h.1
   ·obtain⟨⟨I,C⟩,_⟩:=B i u L;exact .inr ⟨r i,I,C,M⟩
  ·by_cases E:lQ (fun i=>ρ (r i)) (din A) k
   ·exact .inr E
   ·exact .inl ⟨h,E⟩
 have T:Ins (fun k=>Un F.S0 ρ σ.d k/\¬lQ (fun i=>ρ (r i)) (din A) k) (fun i=>ρ (r i)) w (din A):=by
  refine⟨fun i u h=>?_,fun i u b h G=>?_,fun i u b h G V=>V.2 ⟨i,u,h,G⟩,fun i j u X b hi hj bi bj=>?_⟩
  ·rw[Q];exact(B i u h).2
  ·obtain⟨⟨I,C⟩,_⟩:=B i u h;exact(z.fresh _ _ b C G).2
  ·obtain⟨⟨I,C⟩,_⟩:=B i u hi;obtain⟨⟨ab,h4⟩,_⟩:=B j X hj;exact hr _ _ (z.inj _ _ _ _ b C h4 bi bj)
 have K:=bT z R (Op.call ⟨.value (.func f),xs.toArray,ts⟩).operands;have U:=ha.spec (ys:=(Op.call ⟨.value (.func f),xs.toArray,ts⟩).operands) (fun x hx=>by simp[Op.operands,Call.operands,hx]) K;refine OpWp.enter (sX hcall) ((hc A _ w _ _ S T (by rw[Q];exact U)).mono ?_);rintro e w' ⟨v,ρ',rfl,E⟩;exact⟨v,rfl,St.callM hr z R hz aa O (hin A) (hout A) (hH A) hst hnew (hcl A) hKH hdst E⟩
end
def RH(a b i:Nat):Nat:=bif Nat.beq i a then b else bif Nat.beq i b then a else i
def Av:List (Nat×Nat)->Nat->Nat
 | [],i=>i
 | (a,b)::l,i=>Av l (RH a b i)
theorem Yt(a b i:Nat):RH a b (RH a b i)=i:=by
 unfold RH;cases h1:Nat.beq i a<;>cases h2:Nat.beq i b<;>simp only[aAe,pF,h1,h2]
 all_goals first
  | (have:=aAb h1;subst this;cases h3:Nat.beq b i<;>simp_all [aC3];done)
  | (have:=aAb h2;subst this;cases h3:Nat.beq a i<;>simp_all [aC3];done)
  |simp_all
theorem dY:∀(l:List (Nat×Nat)) (i j:Nat),Av l i=Av l j->i=j
 | [],_,_,h=>h
 | (a,b)::l,i,j,h=>by
  have:=dY l _ _ h;rw[<-Yt a b i,this,Yt]
end Go.Sw
