/- The library over the model: how values lie, what is ours in memory, rules for operations, calls, loops; functions that tell themselves. Conditions: none. -/
import Derived.Orders
import Derived.Tactics
import Derived.Below
import Derived.TacticsIn
import Derived.OrdersIn
import Derived.Laws.Rows
import Derived.RangeFuncRecord
import Derived.Laws.StructEq
import Derived.Laws.AppendOwn
import Derived.Laws.CopyRow
import Derived.Laws.MakeOwn
import Derived.Laws.Tables
import Derived.ChangeKeysEq
import Derived.Laws.Cover3
set_option linter.unusedVariables false
set_option linter.unusedSimpArgs false
namespace Go.Sw
abbrev aAf:=Go.World
abbrev aAg:=Go.TypeId
abbrev aAp:=Go.Operand
abbrev aA4:=Go.Value
abbrev aA5:=Go.Program
abbrev aA6:=Go.FuncId
abbrev aA7:=Go.IntKind
abbrev aA8:=Go.Field
abbrev aA9:=Go.TypeDesc
abbrev aBa:=Go.Oper
abbrev aBb:=Go.Code
abbrev aBc:=Go.Addr
abbrev aBd:=Go.Exit
abbrev aBe:=Go.Act
end Go.Sw
namespace Go.Sw
abbrev cA:=@Option.bind_some
abbrev cG:=@cond_false
abbrev cM:=@List.length_append
abbrev cT:=@decide_eq_false
abbrev fA:=@Option.isSome_none
abbrev fE:=@cond_true
abbrev gC:=@Nat.le_refl
abbrev gP:=@Nat.eq_of_beq_eq_true
abbrev gQ:=@Nat.le_of_ble_eq_true
abbrev gR:=@Int.toNat_natCast
abbrev nE:=@List.all_eq_true
abbrev nS:=@if_neg
abbrev pF:=@decide_eq_true
abbrev sE:=@List.getElem?_eq_getElem
abbrev sK:=@List.mem_cons
abbrev sM:=@if_pos
abbrev W6:=@Option.some.injEq
abbrev Z1:=@List.length_take
abbrev kf:=@List.mem_cons_of_mem
abbrev dt:=@List.append_assoc
abbrev X6:=@Option.some.inj
abbrev bm:=@Bool.and_eq_true
abbrev kg:=@List.mem_cons_self
abbrev gn:=@Nat.lt_of_lt_of_le
abbrev V0:=@List.map_cons
abbrev ya:=@List.eq_nil_of_length_eq_zero
abbrev vo:=@List.getD_eq_getElem?_getD
abbrev sw:=@List.take_append_drop
abbrev qf:=@List.length_cons
abbrev mu:=@Bool.false_eq_true
abbrev rk:=@Array.length_toList
abbrev zy:=@List.getElem?_eq_none
abbrev mr:=@List.length_drop
abbrev aB4:=@Nat.mod_eq_of_lt
abbrev dq:=@decide_false
abbrev M5:=@if_false
abbrev eo:=@Nat.le_trans
abbrev oq:=@List.mem_append
abbrev sv:=@List.length_map
abbrev K4:=@if_true
abbrev aDl:=@Array.getElem?_eq_some_iff
abbrev jl:=@Nat.lt_or_ge
abbrev aDn:=@Array.getD_eq_getD_getElem?
abbrev rh:=@List.nil_append
abbrev rf:=@List.append_nil
abbrev ue:=@List.length_nil
abbrev ud:=@List.cons_append
abbrev xy:=@Option.isNone_none
abbrev qe:=@Prod.mk.injEq
abbrev jk:=@Nat.add_mul
abbrev ze:=@List.getElem?_map
abbrev aD4:=@List.length_pos_iff
abbrev ot:=@List.mem_map
abbrev aD6:=@List.length_replicate
abbrev xz:=@List.foldl_cons
abbrev aD8:=@Array.getElem?_eq_getElem
abbrev vn:=@Bool.not_true
abbrev aEa:=@Int.fdiv_eq_ediv_of_nonneg
abbrev aEb:=@Nat.mul_le_mul_right
abbrev zd:=@List.mem_range
abbrev aEd:=@List.mem_of_getElem?
abbrev aEe:=@List.getElem_mem
abbrev aEf:=@Bool.not_eq_true'
abbrev xd:=@decide_true
abbrev aEh:=@List.exists_cons_of_ne_nil
abbrev aEi:=@List.getElem?_eq_some_iff
abbrev aEk:=@List.length_eq_one_iff
abbrev aEl:=@Array.getElem?_eq_none
abbrev aEp:=@Option.map_some
abbrev aEq:=@List.not_mem_nil
abbrev aEr:=@Bool.eq_false_or_eq_true
abbrev jj:=@Ne.symm
abbrev aEu:=@List.getElem?_set_ne
abbrev aE8:=@List.mem_of_mem_take
abbrev aFe:=@Bool.not_false
abbrev aFf:=@List.mem_singleton
abbrev aFg:=@List.mem_filter
abbrev aFh:=@List.take_of_length_le
abbrev aFw:=@Option.getD_some
abbrev aFx:=@List.getElem?_append_left
abbrev aF1:=@List.ext_getElem?
abbrev aF2:=@Decidable.not_not
abbrev aF4:=@List.length_singleton
abbrev aF5:=@List.map_append
abbrev aF6:=@BitVec.toNat_ofNat
abbrev aF7:=@Option.isSome_some
abbrev aF8:=@Array.size_replicate
abbrev aF9:=@Nat.pow_le_pow_right
abbrev aGa:=@List.drop_left
abbrev aGb:=@Array.toList_modify
abbrev aGc:=@Nat.min_eq_left
abbrev aGd:=@Bool.or_eq_true
abbrev aGe:=@List.drop_eq_getElem_cons
abbrev aGf:=@List.filter_append
abbrev aGg:=@Nat.xor_lt_two_pow
abbrev aGh:=@Nat.mul_le_mul
abbrev aGi:=@List.mem_of_mem_drop
abbrev aGj:=@decide_eq_true_eq
abbrev aGk:=@List.dropLast_concat_getLast
abbrev aGl:=@List.map_congr_left
abbrev aGm:=@List.getElem?_set_self
abbrev aGn:=@List.idxOf_lt_length_of_mem
abbrev aGo:=@Nat.pow_succ
abbrev aGp:=@List.map_toArray
abbrev aGq:=@Bool.not_eq_true
abbrev aGr:=@List.length_filter_le
abbrev aGs:=@Nat.one_mul
abbrev aGt:=@not_true_eq_false
abbrev aGu:=@Nat.zero_add
abbrev aGv:=@List.getElem?_modify
abbrev aGw:=@List.map_nil
abbrev aGx:=@Nat.mod_lt
abbrev aGy:=@List.filter_eq_self
abbrev aGz:=@List.take_left
abbrev aG0:=@List.zipIdx_cons
abbrev aG1:=@List.take_length
abbrev aG2:=@List.any_eq_true
abbrev aG3:=@Nat.and_two_pow_sub_one_eq_mod
abbrev aG4:=@Int.le_refl
abbrev aG5:=@List.mem_filterMap
abbrev aG6:=@Array.getElem?_setIfInBounds
abbrev aG7:=@List.cons.injEq
abbrev aG8:=@List.singleton_append
abbrev aG9:=@List.flatten_cons
abbrev aHa:=@Array.toList_push
abbrev aHb:=@List.foldl_append
abbrev aHc:=@Array.getElem?_append_left
abbrev aHd:=@Nat.zero_le
abbrev aHe:=@List.mem_append_left
abbrev aHf:=@List.getElem?_append_right
abbrev aHg:=@Nat.mod_two_eq_zero_or_one
abbrev aHh:=@List.map_map
abbrev aHi:=@List.mem_flatMap
abbrev aHj:=@List.getElem_of_mem
abbrev aHk:=@true_and
abbrev aHl:=@or_false
abbrev aHm:=@List.length_set
abbrev aHn:=@UInt8.toNat_ofNat'
abbrev aHo:=@Nat.add_sub_cancel
abbrev aHp:=@List.size_toArray
abbrev aHq:=@Nat.add_zero
abbrev aHr:=@List.drop_drop
abbrev aHs:=@List.drop_eq_nil_of_le
abbrev aHt:=@Nat.beq_refl
abbrev aHu:=@Array.all_eq_true_iff_forall_mem
abbrev aHv:=@List.getElem?_set
abbrev aHw:=@of_decide_eq_true
abbrev aHx:=@Nat.le_succ_of_le
abbrev aHy:=@Option.map_eq_some_iff
abbrev aHz:=@Classical.choose_spec
abbrev aH0:=@Array.getElem?_toList
abbrev aH1:=@List.drop_append
abbrev aH2:=@List.eq_nil_iff_forall_not_mem
abbrev aH3:=@forall_eq_or_imp
abbrev aH4:=@List.cons_ne_nil
abbrev aH5:=@ByteArray.ext
abbrev aH6:=@Nat.shiftLeft_add_eq_or_of_lt
abbrev aH7:=@List.drop_eq_nil_iff
abbrev aH8:=@Nat.mul_comm
abbrev aH9:=@List.drop_take
abbrev aIa:=@decide_eq_true_iff
abbrev aIb:=@Array.size_append
abbrev aIc:=@Bool.true_and
abbrev aId:=@List.cons.inj
abbrev aIe:=@and_self
abbrev aIf:=@BitVec.toNat_and
abbrev aIg:=@List.mem_reverse
abbrev aIh:=@Option.getD_none
abbrev aIi:=@Eq.trans
abbrev aIj:=@Nat.add_comm
abbrev aIk:=@Nat.succ_mul
abbrev aIl:=@Bool.eq_iff_iff
end Go.Sw
namespace Go.Sw
open Go Go.RowKit
structure Ext (S S':Nat->Prop) (w w':aAf):Prop where
 size:w.heap.size<=w'.heap.size
 eh:∀k,k<w.heap.size->¬S k->w'.heap[k]? =w.heap[k]?/\¬S' k
theorem Ext.refl(S:Nat->Prop)(w:aAf):Ext S S w w:=⟨gC _,λ_ _ h=>⟨rfl,h⟩⟩
theorem Ext.trans{S S' S'':Nat->Prop}{w w' w'':aAf}(h:Ext S S' w w')(k:Ext S' S'' w' w''):Ext S S'' w w'':=
 ⟨eo h.size k.size,λi u A=>by
  obtain⟨a,b⟩:=h.eh i u A;obtain⟨c,d⟩:=k.eh i (gn u h.size) b
  grind⟩
structure Fu (α:Type) where
 n:Nat
 agg:Bool
 ok:α->(Nat->Prop)->aAf->List aA4->Prop
 len:∀{x S w cs},ok x S w cs->cs.length=n
 one:agg=false->n=1
 cell:∀{x S w cs},ok x S w cs->∀c∈cs,c.oneCell'=true
 mono:∀{x S S' w w' cs},ok x S w cs->Ext S S' w w'->ok x S' w' cs
theorem Dr{v:aA4}(h:v.oneCell'=true):v.cells= #[v]:=by cases v<;>first | rfl | cases h
def Fu.pk{α:Type}(e:Fu α)(cs:List aA4):aA4:=if e.agg then .agg cs.toArray else cs.headD undef
def Fu.val{α:Type}(e:Fu α)(x:α)(S:Nat->Prop)(w:aAf)(v:aA4):Prop:=∃cs,e.ok x S w cs/\v=e.pk cs
theorem fN{α:Type}{e:Fu α}{x:α}{S S' w w' v}(h:e.val x S w v)(k:Ext S S' w w'):e.val x S' w' v:=
 let ⟨cs,a,b⟩:=h;⟨cs,e.mono a k,b⟩
inductive Slot:Type 1
 |v {α:Type} (e:Fu α) (x:α)
 |ref (i:Nat)
 |ptr (i off:Nat)
 |wi (i off k n:Nat)
 |el (i k n off:Nat)
 | T9 (i off lo n cap:Nat)
 |esl (i off n cap:Nat)
 |sub (i off n:Nat)
 | B8 {α:Type} (e:Fu α) (x:α)
 | G0 (g:Nat) (cap:List Slot)
 |top
 |agg (l:List Slot)
 |q9 (l:List Slot)
def r8(w:aAf)(b off:Nat)(cs:List aA4):Prop:=∃c T fr,w.heap[b]? =some (.cells c T fr)/\∀j (h:j<cs.length),c[off+j]? =some cs[j]
def E2(v:aA4):Option Nat:=match v with | .pointer (some a)=>some a.block | .slice (some a) _ _=>some a.block | .map (some r)=>some r | _=>none
def Jw(v:aA4)(n:Nat):aA4:=match v with | .slice (some a) _ _=> .pointer (some ⟨a.block,a.off+n,none⟩) | v=>v
def IN(v:aA4)(off n cap:Nat):aA4:=match v with | .pointer (some a)=> .slice (some ⟨a.block,off,none⟩) n cap | v=>v
def IP(v:aA4)(off n cap:Nat):aA4:=match v with | .slice (some a) _ _=> .slice (some ⟨a.block,a.off+off,none⟩) n cap | v=>v
def Tc(v:aA4)(off n c:Nat):aA4:=match v with | .slice (some a) _ _=> .slice (some ⟨a.block,a.off+off,none⟩) n c | .slice none _ _=> .slice none n c | v=>v
def Al(v:aA4)(n:Nat):aA4:=match v with | .pointer (some a)=> .pointer (some ⟨a.block,n,none⟩) | v=>v
structure LV where
 v:aA4
 x:Nat->Prop
def LV.of(v:aA4):LV:=⟨v,λ_=>False⟩
def mS(u:LV)(b:Nat):Prop:=E2 u.v=some b\/u.x b
theorem nN{v:aA4}{b:Nat}:mS (.of v) b↔E2 v=some b:=⟨λh=>h.elim id False.elim,.inl⟩
def AW(v:aA4):Prop:=(∃a l c,v= .slice a l c)\/∃r,v= .map r
mutual
def Slot.I2(ρ:Nat->LV)(S:Nat->Prop)(w:aAf):Slot->List aA4->Prop | .v e x,cs=>e.ok x S w cs | .ref i,cs=>AW (ρ i).v/\cs=[(ρ i).v] | .ptr i off,cs=>(∃b,(ρ i).v= .pointer (some ⟨b,0,none⟩))/\cs=[Al (ρ i).v off] | .wi i off k n,cs=>(∃b,(ρ i).v= .pointer (some ⟨b,0,none⟩))/\cs=[Al (ρ i).v (off+k*n)] | .el i k n off,cs=>(∃b o l c,(ρ i).v= .slice (some ⟨b,o,none⟩) l c)/\cs=[Jw (ρ i).v (k*n+off)] | .T9 i off lo n cap,cs=>(∃b,(ρ i).v= .pointer (some ⟨b,0,none⟩))/\cs=[IN (ρ i).v (off+lo) n cap] | .esl i off n cap,cs=>(∃b o l c,(ρ i).v= .slice (some ⟨b,o,none⟩) l c)/\cs=[IP (ρ i).v off n cap] | .sub i off n,cs=>(∃a l c,(ρ i).v= .slice a l c)/\∃c o,n<=c/\(o=off\/n=0)/\cs=[Tc (ρ i).v o n c] | .B8 e x,cs=>∃b off ds,cs=[.pointer (some ⟨b,off,none⟩)]/\b<w.heap.size/\¬S b/\r8 w b off ds/\e.ok x S w ds | .G0 g cap,cs=>∃vs,cs=[.func (.func g) #[] vs.toArray]/\aG ρ S w cap vs | .top,cs=>cs=[undef] | .agg _,_=>False | .q9 _,_=>False
def aG(ρ:Nat->LV)(S:Nat->Prop)(w:aAf):List Slot->List aA4->Prop | [],vs=>vs=[] | s::r,vs=>∃u jr,vs=u::jr/\Slot.ok ρ S w s u/\aG ρ S w r jr
def aL(ρ:Nat->LV)(S:Nat->Prop)(w:aAf):List Slot->List aA4->Prop | [],cs=>cs=[] | s::r,cs=>∃c d,cs=c++d/\Slot.I2 ρ S w s c/\aL ρ S w r d
def Slot.ok(ρ:Nat->LV)(S:Nat->Prop)(w:aAf):Slot->aA4->Prop | .v e x,u=>e.val x S w u | .ref i,u=>AW (ρ i).v/\u=(ρ i).v | .ptr i off,u=>(∃b,(ρ i).v= .pointer (some ⟨b,0,none⟩))/\u=Al (ρ i).v off | .wi i off k n,u=>(∃b,(ρ i).v= .pointer (some ⟨b,0,none⟩))/\u=Al (ρ i).v (off+k*n) | .el i k n off,u=>(∃b o l c,(ρ i).v= .slice (some ⟨b,o,none⟩) l c)/\u=Jw (ρ i).v (k*n+off) | .T9 i off lo n cap,u=>(∃b,(ρ i).v= .pointer (some ⟨b,0,none⟩))/\u=IN (ρ i).v (off+lo) n cap | .esl i off n cap,u=>(∃b o l c,(ρ i).v= .slice (some ⟨b,o,none⟩) l c)/\u=IP (ρ i).v off n cap | .sub i off n,u=>(∃a l c,(ρ i).v= .slice a l c)/\∃c o,n<=c/\(o=off\/n=0)/\u=Tc (ρ i).v o n c | .B8 e x,u=>∃b off ds,u= .pointer (some ⟨b,off,none⟩)/\b<w.heap.size/\¬S b/\r8 w b off ds/\e.ok x S w ds | .G0 g cap,u=>∃vs,u= .func (.func g) #[] vs.toArray/\aG ρ S w cap vs | .top,u=>u=undef | .agg l,u=>∃cs,u= .agg cs.toArray/\aL ρ S w l cs | .q9 l,u=>∃vs,u= .tuple vs.toArray/\aG ρ S w l vs
end
def lE(ρ ρ':Nat->LV)(l:List Nat):Prop:=∀i∈l,(ρ' i).v=(ρ i).v
mutual
def Slot.E1:Slot->List Nat | .ref i=>[i] | .ptr i _=>[i] | .wi i _ _ _=>[i] | .el i _ _ _=>[i] | .T9 i _ _ _ _=>[i] | .esl i _ _ _=>[i] | .sub i _ _=>[i] | .G0 _ l=>bX l | .agg l=>bX l | .q9 l=>bX l | _=>[]
def bX:List Slot->List Nat | []=>[] | s::r=>s.E1++bX r
end
theorem r8.mono{S S':Nat->Prop}{w w':aAf}{b off:Nat}{cs:List aA4}(h:r8 w b off cs)(hb:b<w.heap.size)(hs:¬S b)(k:Ext S S' w w'):r8 w' b off cs:=by
 obtain⟨c,T,u,B,A⟩:=h;exact⟨c,T,u,by rw[(k.eh b hb hs).1];grind,A⟩
section
variable {ρ ρ':Nat->LV}{S S':Nat->Prop}{w w':aAf}
mutual
theorem uR:∀(s:Slot) (cs:List aA4),s.I2 ρ S w cs->Ext S S' w w'->lE ρ ρ' s.E1->s.I2 ρ' S' w' cs
 | .v e x,cs,h,k,_=>e.mono h k
 | .ref i,cs,h,_,a=>by simp only[Slot.I2] at h ⊢;rw[a i (by simp[Slot.E1])];exact h
 | .ptr i u,cs,h,_,a=>by simp only[Slot.I2] at h ⊢;rw[a i (by simp[Slot.E1])];exact h
 | .wi i u j n,cs,h,_,a=>by simp only[Slot.I2] at h ⊢;rw[a i (by simp[Slot.E1])];exact h
 | .el i k n u,cs,h,_,a=>by simp only[Slot.I2] at h ⊢;rw[a i (by simp[Slot.E1])];exact h
 | .T9 i u G n cap,cs,h,_,a=>by simp only[Slot.I2] at h ⊢;rw[a i (by simp[Slot.E1])];exact h
 | .esl i u n cap,cs,h,_,a=>by simp only[Slot.I2] at h ⊢;rw[a i (by simp[Slot.E1])];exact h
 | .sub i u n,cs,h,_,a=>by simp only[Slot.I2] at h ⊢;rw[a i (by simp[Slot.E1])];exact h
 | .B8 e x,cs,h,k,_=>by
  simp only[Slot.I2] at h ⊢;obtain⟨b,u,D,B,A,C,E,F⟩:=h;exact⟨b,u,D,B,gn A k.size,(k.eh b A C).2,E.mono A C k,e.mono F k⟩
 | .G0 g cap,cs,h,k,a=>by
  simp only[Slot.I2] at h ⊢;obtain⟨vs,B,A⟩:=h;exact⟨vs,B,lX cap vs A k (by simpa[Slot.E1] using a)⟩
 | .top,cs,h,_,_=>by simpa only[Slot.I2] using h
 | .agg l,cs,h,_,_=>by simp[Slot.I2] at h
 | .q9 l,cs,h,_,_=>by simp[Slot.I2] at h
theorem lX:∀(l:List Slot) (vs:List aA4),aG ρ S w l vs->Ext S S' w w'->lE ρ ρ' (bX l)->aG ρ' S' w' l vs
 | [],vs,h,_,_=>by simpa only[aG] using h
 |s::r,vs,h,k,a=>by
  simp only[aG] at h ⊢;obtain⟨u,B,C,D,E⟩:=h;exact⟨u,B,C,Slot.j5 s u D k (λi A=>a i (by simp[bX,A])),lX r B E k (λi A=>a i (by simp[bX,A]))⟩
theorem eI:∀(l:List Slot) (vs:List aA4),aL ρ S w l vs->Ext S S' w w'->lE ρ ρ' (bX l)->aL ρ' S' w' l vs
 | [],vs,h,_,_=>by simpa only[aL] using h
 |s::r,vs,h,k,a=>by
  simp only[aL] at h ⊢;obtain⟨u,B,C,D,E⟩:=h;exact⟨u,B,C,uR s u D k (λi A=>a i (by simp[bX,A])),eI r B E k (λi A=>a i (by simp[bX,A]))⟩
theorem Slot.j5:∀(s:Slot) (u:aA4),s.ok ρ S w u->Ext S S' w w'->lE ρ ρ' s.E1->s.ok ρ' S' w' u
 | .v e x,cs,h,k,_=>by simp only[Slot.ok] at h ⊢;exact fN h k
 | .ref i,cs,h,_,a=>by simp only[Slot.ok] at h ⊢;rw[a i (by simp[Slot.E1])];exact h
 | .ptr i B,cs,h,_,a=>by simp only[Slot.ok] at h ⊢;rw[a i (by simp[Slot.E1])];exact h
 | .wi i B j n,cs,h,_,a=>by simp only[Slot.ok] at h ⊢;rw[a i (by simp[Slot.E1])];exact h
 | .el i k n B,cs,h,_,a=>by simp only[Slot.ok] at h ⊢;rw[a i (by simp[Slot.E1])];exact h
 | .T9 i B I n cap,cs,h,_,a=>by simp only[Slot.ok] at h ⊢;rw[a i (by simp[Slot.E1])];exact h
 | .esl i B n cap,cs,h,_,a=>by simp only[Slot.ok] at h ⊢;rw[a i (by simp[Slot.E1])];exact h
 | .sub i B n,cs,h,_,a=>by simp only[Slot.ok] at h ⊢;rw[a i (by simp[Slot.E1])];exact h
 | .B8 e x,cs,h,k,_=>by
  simp only[Slot.ok] at h ⊢;obtain⟨b,B,E,C,A,D,F,G⟩:=h;exact⟨b,B,E,C,gn A k.size,(k.eh b A D).2,F.mono A D k,e.mono G k⟩
 | .G0 g cap,cs,h,k,a=>by
  simp only[Slot.ok] at h ⊢;obtain⟨vs,C,A⟩:=h;exact⟨vs,C,lX cap vs A k (by simpa[Slot.E1] using a)⟩
 | .top,cs,h,_,_=>by simpa only[Slot.ok] using h
 | .agg l,cs,h,k,a=>by
  simp only[Slot.ok] at h ⊢;obtain⟨vs,C,A⟩:=h;exact⟨vs,C,eI l vs A k (by simpa[Slot.E1] using a)⟩
 | .q9 l,cs,h,k,a=>by
  simp only[Slot.ok] at h ⊢;obtain⟨vs,C,A⟩:=h;exact⟨vs,C,lX l vs A k (by simpa[Slot.E1] using a)⟩
end
end
def Fu.H8{α:Type}(e:Fu α):List α->(Nat->Prop)->aAf->List aA4->Prop | [],_,_,cs=>cs=[] | x::xs,S,w,cs=>∃c d,cs=c++d/\e.ok x S w c/\Fu.H8 e xs S w d
section
variable {α:Type}{e:Fu α}{S S':Nat->Prop}{w w':aAf}
theorem Fu.q8:∀{xs:List α} {cs},e.H8 xs S w cs->Ext S S' w w'->e.H8 xs S' w' cs | [],_,h,_=>h | _::_,_,⟨c,d,h1,h2,h3⟩,k=>⟨c,d,h1,e.mono h2 k,Fu.q8 h3 k⟩
theorem bG:∀{xs:List α} {cs},e.H8 xs S w cs->cs.length=xs.length*e.n
 | [],_,h=>by grind [Fu.H8]
 |x::xs,_,⟨c,d,u,A,B⟩=>by rw[u,cM,e.len A,bG B,qf,jk,aGs,aIj]
theorem qK:∀{xs:List α} {cs},e.H8 xs S w cs->∀c∈cs,c.oneCell'=true
 | [],_,h=>by grind [Fu.H8]
 |x::xs,_,⟨c,d,A,B,C⟩=>by
  intro y u;rw[A] at u;rcases oq.1 u with u | u
  ·exact e.cell B y u
  ·exact qK C y u
theorem fG:∀{xs ys:List α} {cs ds},e.H8 xs S w cs->e.H8 ys S w ds->e.H8 (xs++ys) S w (cs++ds)
 | [],_,_,_,h,k=>by grind [Fu.H8]
 |x::xs,ys,_,ds,⟨c,d,B,u,A⟩,k=>⟨c,d++ds,by grind,u,fG A k⟩
theorem xP:∀{xs ys:List α} {cs},e.H8 (xs++ys) S w cs->∃c d,cs=c++d/\e.H8 xs S w c/\e.H8 ys S w d
 | [],_,cs,h=>⟨[],cs,rfl,rfl,h⟩
 |x::xs,ys,_,⟨c,d,G,D,E⟩=>by
  obtain⟨u,A,F,B,C⟩:=xP E;exact⟨c++u,A,by grind,⟨c,u,rfl,D,B⟩,C⟩
theorem nL{xs:List α}{cs}(h:e.H8 xs S w cs){i:Nat}{x:α}(hx:xs[i]? =some x):∃a c b,cs=a++(c++b)/\a.length=i*e.n/\e.ok x S w c/\(∀y c',e.ok y S w c'->e.H8 (xs.set i y) S w (a++(c'++b))):=by
 have u:i<xs.length:=by
  rcases jl i xs.length with h | h
  ·exact h
  ·simp[zy h] at hx
 have C:xs[i]=x:=by simpa[sE u] using hx
 have D:xs=xs.take i++(x::xs.drop (i+1)):=by
  rw[<-C,List.getElem_cons_drop,sw]
 have A:=h;rw[D] at A;obtain⟨a,d,F,B,c,b,G,I,K⟩:=xP A;refine⟨a,c,b,by rw[F,G],?_,I,λy c' E=>?_⟩
 ·rw[bG B,Z1];rw[aGc (Nat.le_of_lt u)]
 ·have:xs.set i y=xs.take i++(y::xs.drop (i+1)):=by
   rw[List.set_eq_take_append_cons_drop,sM u]
  rw[this];exact fG B ⟨c',b,rfl,E,K⟩
end
structure DE (α:Type) where
 ok:α->(Nat->Prop)->aAf->LV->List aA4->Prop
 mono:∀{x:α} {S S':Nat->Prop} {w w':aAf} {u:LV} {l:List aA4},ok x S w u l->Ext S S' w w'->(∀b,mS u b->w'.heap[b]? =w.heap[b]?)->ok x S' w' u l
inductive j2:Type 1
 |box (T:aAg) (l:List Slot) (pb:Option Nat:=none)
 |arr {α:Type} (T:aAg) (e:Fu α) (xs:List α)
 |mp {α β:Type} (e:Fu α) (f:Fu β) (m:List (α×β))
 |dp {α:Type} (D:DE α) (x:α) (ls:List Nat)
def Xn{α β:Type}(e:Fu α)(f:Fu β)(S:Nat->Prop)(w:aAf):List (α×β)->List MapEntry->Prop | [],[]=>True | (k,v)::m,x::xs=>e.val k S w x.key/\f.val v S w x.val/\Xn e f S w m xs | _,_=>False
theorem yC{α β:Type}{e:Fu α}{f:Fu β}{S S':Nat->Prop}{w w':aAf}(k:Ext S S' w w'):∀{m:List (α×β)} {xs:List MapEntry},Xn e f S w m xs->Xn e f S' w' m xs | [],[],_=>trivial | (_,_)::_,_::_,⟨h1,h2,h3⟩=>⟨fN h1 k,fN h2 k,yC k h3⟩| [],_::_,h=>h | _::_,[],h=>h
def j2.ok(ρ:Nat->LV)(S:Nat->Prop)(w:aAf)(u:LV):j2->Prop | .box T l pb=>(∃b cs,u.v= .pointer (some ⟨b,0,none⟩)/\w.heap[b]? =some (.cells cs.toArray T (0,0))/\aL ρ S w l cs)/\∀c,pb=some c->u.v= .pointer (some ⟨c,0,none⟩) | .arr T e xs=>(xs=[]/\u.v= .slice none 0 0)\/∃b cap pre cs post,u.v= .slice (some ⟨b,pre.length,none⟩) xs.length cap/\w.heap[b]? =some (.cells (pre++(cs++post)).toArray T (0,0))/\e.H8 xs S w cs/\xs.length<=cap/\cap*e.n<=cs.length+post.length/\xs.length<=140737488355328 | .mp e f m=>∃b es ck,u.v= .map (some b)/\w.heap[b]? =some (.map es ck)/\Xn e f S w m es.toList | .dp D x ls=>D.ok x S w u (ls.map λl=>(ρ l).v)
def j2.E1:j2->List Nat | .box _ l _=>bX l | .arr _ _ _=>[] | .mp _ _ _=>[] | .dp _ _ ls=>ls
theorem j2.j5{ρ ρ':Nat->LV}{S S':Nat->Prop}{w w':aAf}{u:LV}{en:j2}(h:en.ok ρ S w u)(k:Ext S S' w w')(a:lE ρ ρ' en.E1)(hb:∀b,mS u b->w'.heap[b]? =w.heap[b]?):en.ok ρ' S' w' u:=by
 cases en with
 |box T l P=>
  obtain⟨⟨b,cs,A,B,C⟩,E⟩:=h;exact⟨⟨b,cs,A,by rw[hb b (.inl (by simp[A,E2]))];exact B,eI l cs C k a⟩,E⟩
 |arr T e xs=>
  rcases h with h |⟨b,L,M,cs,N,A,B,C,E,O⟩
  ·exact .inl h
  ·exact .inr ⟨b,L,M,cs,N,A,by rw[hb b (.inl (by simp[A,E2]))];exact B,Fu.q8 C k,E,O⟩
 |mp e f m=>
  obtain⟨b,I,K,A,B,C⟩:=h;exact⟨b,I,K,A,by rw[hb b (.inl (by simp[A,E2]))];exact B,yC k C⟩
 |dp D x F=>
  have:=D.mono h k hb;simp only[j2.ok];have e:(F.map λl=>(ρ' l).v)=F.map λl=>(ρ l).v:=aGl λl G=>a l G;rw[e];exact this
def lk:List (Nat×Slot)->Nat->Option Slot | [],_=>none | (i,s)::r,t=>bif Nat.beq i t then some s else lk r t
def aF:List (Nat×j2)->Nat->Option j2 | [],_=>none | (i,s)::r,t=>bif Nat.beq i t then some s else aF r t
structure AS:Type 1 where
 g:List (Nat×Slot)
 d:List (Nat×j2)
structure w8 where
 P:aA5
 N:Nat
 S0:Nat->Prop
 w0:aAf
 R:Nat->Prop
 rd:Option Nat
 df:List Deferred
def lF(ρ:Nat->LV)(d:List (Nat×j2))(k:Nat):Prop:=∃i en,aF d i=some en/\mS (ρ i) k
def Un(S:Nat->Prop)(ρ:Nat->LV)(d:List (Nat×j2))(k:Nat):Prop:=S k\/lF ρ d k
structure Core (F:w8) (d:List (Nat×j2)) (ρ:Nat->LV) (w:aAf):Prop where
 low:∀k,F.S0 k->k<F.w0.heap.size
 size:F.w0.heap.size<=w.heap.size
 frame:∀k,k<F.w0.heap.size->¬F.R k->w.heap[k]? =F.w0.heap[k]?
 os:w.os=F.w0.os
 tape:w.tape=F.w0.tape
 output:w.output=F.w0.output
 own:∀i en,aF d i=some en->en.ok ρ (Un F.S0 ρ d) w (ρ i)
 fresh:∀i en b,aF d i=some en->mS (ρ i) b->(F.w0.heap.size<=b\/F.R b)/\b<w.heap.size
 inj:∀i j en en' b,aF d i=some en->aF d j=some en'->mS (ρ i) b->mS (ρ j) b->i=j
 apart:∀i en b,aF d i=some en->mS (ρ i) b->¬F.S0 b
structure St (F:w8) (O:AS) (a:aBe) (w:aAf):Prop where
 core:∃ρ,Core F O.d ρ w/\∀t s,lk O.g t=some s->s.ok ρ (Un F.S0 ρ O.d) w (a.tmps.getD t undef)
 size:a.tmps.size=F.N
 defers:a.defers=F.df
end Go.Sw
namespace Go.Sw
open Go Go.RowKit
variable {α β γ κ:Type}{F F':w8}{ops:Array aBa}{os:List aBa}{O O':AS}{s res s0:Slot}{new d' dd:List (Nat×j2)}{Q:aBd->aBe->aAf->Prop}{ty T2 U:aAg}{p:String}{af:Array Edge}{gd:Option (Nat×Bool)}{pb:Option Nat}{OK:List (Nat×j2)->Prop}{C:List Nat}
def zY(k:aA7)(n:Int):Prop:=k.min<=n/\n<=k.max
instance (k:aA7) (n:Int):Decidable (zY k n):=inferInstanceAs (Decidable (_/\_))
def Fu.int(k:aA7):Fu Int where
 n:=1
 agg:=false
 ok x _ _ cs:=cs=[.int k x]/\zY k x
 len h:=by rw[h.1];rfl
 one _:=rfl
 cell h c hc:=by rw[h.1] at hc;simp at hc;subst hc;rfl
 mono h _:=h
def Fu.bool:Fu Bool where
 n:=1
 agg:=false
 ok x _ _ cs:=cs=[.bool x]
 len h:=by rw[h];rfl
 one _:=rfl
 cell h c hc:=by rw[h] at hc;simp at hc;subst hc;rfl
 mono h _:=h
def jE(l:List Int):ByteArray:=⟨(l.map λn=>UInt8.ofNat n.toNat).toArray⟩
def lb(s:ByteArray):List Int:=s.data.toList.map λb=>(b.toNat:Int)
def C2(l:List Int):Prop:=∀b∈l,0<=b/\b<=255
theorem Xs{l:List Int}(h:C2 l):lb (jE l)=l:=by
 simp only[lb,jE,aHh];refine(aGl λb u=>?_).trans (List.map_id l);have:=h b u;simp[Function.comp,aHn,id];omega
theorem Qm(s:ByteArray):jE (lb s)=s:=by
 cases s with | mk d=>
 simp[lb,jE,aHh];simp[Array.toList_inj,aGl,trans,List.map_id,Function.comp]
theorem Ja(s:ByteArray):C2 (lb s):=by
 intro b u;obtain⟨x,_,rfl⟩:=ot.1 u;have:=x.toNat_lt;omega
theorem Qn(s:ByteArray):(lb s).length=s.size:=by unfold lb;rw[sv];exact rk
theorem gN(l:List Int):(jE l).size=l.length:=by show (l.map _).toArray.size=_;simp
def Fu.str:Fu (List Int) where
 n:=1
 agg:=false
 ok x _ _ cs:=cs=[.string (jE x)]/\C2 x/\x.length<=9223372036854775807
 len h:=by rw[h.1];rfl
 one _:=rfl
 cell h c hc:=by rw[h.1] at hc;simp at hc;subst hc;rfl
 mono h _:=h
theorem lG{k:aA7}{x:Int}{S w u}:(Fu.int k).val x S w u↔u= .int k x/\zY k x:=by
 constructor
 ·rintro⟨cs,⟨rfl,h⟩,rfl⟩;exact⟨rfl,h⟩
 ·rintro⟨rfl,h⟩;exact⟨_,⟨rfl,h⟩,rfl⟩
theorem wI{x:Bool}{S w u}:Fu.bool.val x S w u↔u= .bool x:=by
 constructor
 ·rintro⟨cs,rfl,rfl⟩;rfl
 ·rintro rfl;exact⟨_,rfl,rfl⟩
theorem tD{x:List Int}{S w u}:Fu.str.val x S w u↔u= .string (jE x)/\C2 x/\x.length<=9223372036854775807:=by
 constructor
 ·rintro⟨cs,⟨rfl,h⟩,rfl⟩;exact⟨rfl,h⟩
 ·rintro⟨rfl,h⟩;exact⟨_,⟨rfl,h⟩,rfl⟩
def j6(P:aA5)(o:aBa)(a:aBe)(w:aAf)(K:aA4->aAf->Prop):Prop:=(∃v w',(execOp a.eval o).run P w= .ok (.value v) w'/\K v w')\/(∃w',(execOp a.eval o).run P w= .ok .skip w'/\K undef w')\/(∃f args w',(execOp a.eval o).run P w= .ok (.enter f args) w'/\Calls P f args w' λe u=>∃v,e= .returned v/\K v u)\/(∃l f tmps assign body w',(execOp a.eval o).run P w= .ok (.round l f tmps assign body) w'/\RoundIn Fence.wide 0 P l f tmps assign body w' λe u=>∃v,e= .returned v/\K v u)
theorem yR{P:aA5}{o:aBa}{a:aBe}{w w':aAf}{x:Next}(h:(execOp a.eval o).run P w= .ok x w')(hx:∀d,x≠.defer d)(l:Option Nat):o.semAt l a.eval=execOp a.eval o:=by
 refine Oper.semAt_eq _ _ _ λc u=>?_;unfold execOp at h;rw[u] at h;simp only[Sem.run_bind] at h;cases hr:(resolve a.eval c o.type).run P w with
 |ok d A=>rw[hr] at h;simp at h;exact hx d h.1.symm
 |halt x A=>rw[hr] at h;simp at h
abbrev w8.fe(F:w8):Fence:={ Fence.wide with round:=F.rd }
theorem j6.wpIn{P:aA5}{o:aBa}{a:aBe}{w:aAf}{K:aA4->aAf->Prop}(h:j6 P o a w K){l:Option Nat}{next:aBe->aAf->Prop}{Q:aBd->aBe->aAf->Prop}(hn:∀v w',K v w'->next (a.put o.dst v) w'):o.wpIn { Fence.wide with round:=l } 0 P a w next Q:=by
 refine⟨λ_ _=>trivial,?_⟩;rcases h with⟨v,w',h,k⟩|⟨w',h,k⟩|⟨f,args,w',h,k⟩|⟨u,f,A,B,body,w',h,k⟩
 ·rw[yR h (λ_ h=>by cases h),h];exact hn v w' k
 ·rw[yR h (λ_ h=>by cases h),h];exact hn undef w' k
 ·rw[yR h (λ_ h=>by cases h),h];refine⟨λh=>(by cases h),?_⟩;refine CallsIn.mono (callsIn_wide.2 k) ?_;rintro e D ⟨v,rfl,C⟩;exact hn _ _ C
 ·rw[yR h (λ_ h=>by cases h),h];refine⟨λh=>(by cases h),?_⟩;refine RoundIn.mono (show RoundIn { Fence.wide with round:=l } (0 - 1) P u f A B body w' _ from k) ?_
  grind
theorem j6.value{P:aA5}{o:aBa}{a:aBe}{w w':aAf}{v:aA4}{K:aA4->aAf->Prop}(h:(execOp a.eval o).run P w= .ok (.value v) w')(k:K v w'):j6 P o a w K:= .inl ⟨v,w',h,k⟩
theorem j6.skip{P:aA5}{o:aBa}{a:aBe}{w w':aAf}{K:aA4->aAf->Prop}(h:(execOp a.eval o).run P w= .ok .skip w')(k:K undef w'):j6 P o a w K:= .inr (.inl ⟨w',h,k⟩)
theorem j6.enter{P:aA5}{o:aBa}{a:aBe}{w w':aAf}{f:aA6}{args:Array aA4}{K:aA4->aAf->Prop}(h:(execOp a.eval o).run P w= .ok (.enter f args) w')(k:Calls P f args w' λe w''=>∃v,e= .returned v/\K v w''):j6 P o a w K:= .inr (.inr (.inl ⟨f,args,w',h,k⟩))
theorem j6.mono{P:aA5}{o:aBa}{a:aBe}{w:aAf}{K K':aA4->aAf->Prop}(h:j6 P o a w K)(k:∀v w',K v w'->K' v w'):j6 P o a w K':=by
 rcases h with⟨v,w',h,u⟩|⟨w',h,u⟩|⟨f,args,w',h,u⟩|⟨D,f,E,F,body,w',h,u⟩
 ·exact .inl ⟨v,w',h,k _ _ u⟩
 ·exact .inr ((by grind))
 ·exact .inr (.inr (.inl ⟨f,args,w',h,u.mono λe C ⟨v,A,B⟩=>⟨v,A,k _ _ B⟩⟩))
 ·exact .inr (.inr (.inr ⟨D,f,E,F,body,w',h,u.mono λe C ⟨v,A,B⟩=>⟨v,A,k _ _ B⟩⟩))
def IS:aA4->Option Slot | .int k n=>if zY k n then some (.v (Fu.int k) n) else none | .bool b=>some (.v Fu.bool b) | .string s=>if s.size<=9223372036854775807 then some (.v Fu.str (lb s)) else none | _=>none
def aV(g:List (Nat×Slot)):aAp->Option Slot | .tmp t=>lk g t | .const u=>IS u | _=>none
theorem Jy{u:aA4}{s:Slot}(h:IS u=some s)(ρ:Nat->LV)(S:Nat->Prop)(w:aAf):s.ok ρ S w u/\s.E1=[]:=by
 cases u<;>simp only[IS] at h
 case int k n=>
  split at h
  ·rename_i A;cases h;exact⟨by simp only[Slot.ok];exact lG.2 ⟨rfl,A⟩,rfl⟩
  ·cases h
 case bool b=>cases h;exact⟨by simp only[Slot.ok];exact wI.2 rfl,rfl⟩
 case string b=>
  split at h
  ·rename_i A;cases h;exact⟨by grind [Slot.ok,tD,Qm,Ja,Qn],rfl⟩
  ·cases h
 all_goals cases h
structure aKd (ρ:Nat->LV) (S:Nat->Prop) (w w':aAf) (new:List (Nat×j2)):Prop where
 own:∀i en,aF new i=some en->en.ok ρ S w' (ρ i)
 fresh:∀i en b,aF new i=some en->mS (ρ i) b->w.heap.size<=b/\b<w'.heap.size
 inj:∀i j en en' b,aF new i=some en->aF new j=some en'->mS (ρ i) b->mS (ρ j) b->i=j
def y9(ρ:Nat->LV)(S:Nat->Prop)(w:aAf)(s:Slot)(new:List (Nat×j2))(v:aA4)(w':aAf):Prop:=∃ρ',(∀i,aF new i=none->ρ' i=ρ i)/\Below w.heap.size w w'/\s.ok ρ' (Un S ρ' new) w' v/\aKd ρ' (Un S ρ' new) w w' new
structure M4 (O:AS) (xs:Array aAp) (ρ:Nat->LV) (S:Nat->Prop) (a:aBe) (w:aAf):Prop where
 low:∀k,S k->k<w.heap.size
 slot:∀x∈xs,∀s,aV O.g x=some s->s.ok ρ S w (a.eval x)
 U4:∀x∈xs,∀s,aV O.g x=some s->∀i∈s.E1,∀en,aF O.d i=some en->en.ok ρ S w (ρ i)/\∀b,mS (ρ i) b->S b/\b<w.heap.size
def JO(F:w8)(o:aBa)(O:AS)(s:Slot)(new:List (Nat×j2)):Prop:=∀ρ S a w,M4 O o.op.operands ρ S a w->j6 F.P o a w (y9 ρ S w s new)
def AS.put(O:AS)(dst:Option Tmp)(s:Slot)(new:List (Nat×j2)):AS:=⟨match dst with | some d=>(d,s)::O.g | none=>O.g,new++O.d⟩
def AS.free(O:AS)(new:List (Nat×j2)):Bool:=new.all λx=>(O.g.all λy=> !y.2.E1.contains x.1) && O.d.all λy=> !Nat.beq y.1 x.1 && !y.2.E1.contains x.1
def eR(dst:Option Tmp)(n:Nat):Bool:=match dst with | some d=>Nat.blt d n | none=>true
theorem gB(l r:List (Nat×j2))(i:Nat):aF (l++r) i=(aF l i).or (aF r i):=by
 induction l<;>grind [aF,Nat.beq]
theorem lH{l:List (Nat×j2)}{i:Nat}{en:j2}(h:aF l i=some en):(i,en)∈l:=by
 induction l<;>grind [aF,Nat.beq,Nat.eq_of_beq_eq_true,List.mem_cons_self,List.mem_cons_of_mem]
theorem Jz{l:List (Nat×Slot)}{i:Nat}{s:Slot}(h:lk l i=some s):(i,s)∈l:=by
 induction l<;>grind [lk,Nat.beq,Nat.eq_of_beq_eq_true,List.mem_cons_self,List.mem_cons_of_mem]
theorem kB{O:AS}{new:List (Nat×j2)}(h:O.free new=true){i:Nat}{en:j2}(hi:aF new i=some en):(∀t s,lk O.g t=some s->i∉s.E1)/\aF O.d i=none/\∀j e,aF O.d j=some e->i∉e.E1:=by
 have u:=nE.1 h _ (lH hi);simp only[bm,nE] at u;obtain⟨u,B⟩:=u;refine⟨λt s C A=>?_,?_,λj e D A=>?_⟩
 ·have:=u _ (Jz C);simp at this;exact this A
 ·cases hd:aF O.d i with
  |none=>rfl
  |some e=>
   have:=(B _ (lH hd)).1;simp at this
 ·have:=(B _ (lH D)).2;grind
theorem qL{w w':aAf}(h:Below w.heap.size w w'){S S':Nat->Prop}(hs:∀k,k<w.heap.size->S' k->S k):Ext S S' w w':=⟨h.size,λk u A=>⟨h.block k u,λB=>A (hs k u B)⟩⟩
theorem Core.put{F:w8}{d new:List (Nat×j2)}{ρ ρ':Nat->LV}{w w':aAf}{O:AS}(hσ:O.d=d)(hc:Core F d ρ w)(hf:O.free new=true)(hρ:∀i,aF new i=none->ρ' i=ρ i)(hb:Below w.heap.size w w')(hn:aKd ρ' (Un (Un F.S0 ρ d) ρ' new) w w' new):Core F (new++d) ρ' w'/\(∀k,Un F.S0 ρ' (new++d) k↔Un (Un F.S0 ρ d) ρ' new k)/\Ext (Un F.S0 ρ d) (Un F.S0 ρ' (new++d)) w w':=by
 subst hσ
 have E:∀i u,aF O.d i=some u->ρ' i=ρ i:=λi u h=>hρ i (by
  cases hx:aF new i with
  |none=>rfl
  |some e=>rw[(kB hf hx).2.1] at h;cases h)
 have L:∀k,Un F.S0 ρ' (new++O.d) k↔Un (Un F.S0 ρ O.d) ρ' new k:=by
  intro k;constructor
  ·rintro (h |⟨i,u,A,B⟩)
   ·exact .inl (.inl h)
   ·rw[gB] at A;cases hx:aF new i with
    |some e=>exact .inr ⟨i,e,hx,B⟩
    |none=>rw[hx] at A;simp at A;exact .inl (.inr ⟨i,u,A,by rw[<-E i u A];exact B⟩)
  ·rintro ((h |⟨i,u,A,B⟩) |⟨i,u,A,B⟩)
   ·exact .inl h
   ·refine .inr ⟨i,u,?_,by rw[E i u A];exact B⟩;rw[gB];cases hx:aF new i with
    |some e=>rw[(kB hf hx).2.1] at A;cases A
    |none=>simpa using A
   ·exact .inr ⟨i,u,by rw[gB,A];rfl,B⟩
 have P:Ext (Un F.S0 ρ O.d) (Un F.S0 ρ' (new++O.d)) w w':=by
  refine qL hb λk M h=>?_;rcases (L k).1 h with h |⟨i,u,A,B⟩
  ·exact h
  ·have:=(hn.fresh i u k A B).1;omega
 have R:Ext (Un (Un F.S0 ρ O.d) ρ' new) (Un F.S0 ρ' (new++O.d)) w' w':=⟨gC _,λk _ h=>⟨rfl,λhc=>h ((L k).1 hc)⟩⟩;refine⟨⟨hc.low,eo hc.size hb.size,λk M S=>(hb.block k (gn M hc.size)).trans (hc.frame k M S),hb.os.trans hc.os,hb.tape.trans hc.tape,hb.output.trans hc.output,?_,?_,?_,?_⟩,L,P⟩
 ·intro i u h;rw[gB] at h;cases hx:aF new i with
  |some e=>
   rw[hx] at h;simp at h;subst h;exact j2.j5 (hn.own i e hx) R (λ_ _=>rfl) (λ_ _=>rfl)
  |none=>
   rw[hx] at h;simp at h;rw[E i u h];refine j2.j5 (hc.own i u h) P (λj C=>congrArg LV.v (hρ j ?_)) (λb D=>hb.block b (hc.fresh i u b h D).2);cases hy:aF new j with
   |none=>rfl
   |some e=>exact absurd C ((kB hf hy).2.2 i u h)
 ·intro i u b h D;rw[gB] at h;cases hx:aF new i with
  |some e=>
   obtain⟨A,B⟩:=hn.fresh i e b hx D;exact⟨.inl (eo hc.size A),B⟩
  |none=>
   rw[hx] at h;simp at h;rw[E i u h] at D;obtain⟨A,B⟩:=hc.fresh i u b h D;exact⟨A,gn B hb.size⟩
 ·intro i j u K b G C I bj;rw[gB] at G C;cases hx:aF new i with
  |some e=>
   cases hy:aF new j with
   |some N=>exact hn.inj i j e N b hx hy I bj
   |none=>
    rw[hy] at C;simp at C;rw[E j K C] at bj;have A:=(hn.fresh i e b hx I).1;have B:=(hc.fresh j K b C bj).2;omega
  |none=>
   rw[hx] at G;simp at G;rw[E i u G] at I;cases hy:aF new j with
   |some N=>
    have A:=(hn.fresh j N b hy bj).1;have B:=(hc.fresh i u b G I).2;omega
   |none=>
    rw[hy] at C;simp at C;rw[E j K C] at bj;exact hc.inj i j u K b G C I bj
 ·intro i u b h D Q;rw[gB] at h;cases hx:aF new i with
  |some e=>
   have A:=(hn.fresh i e b hx D).1;have B:=hc.low b Q;have T:=hc.size;omega
  |none=>
   rw[hx] at h;simp at h;rw[E i u h] at D;exact hc.apart i u b h D Q
theorem kC(a:aBe)(dst:Option Tmp)(v:aA4):(a.put dst v).tmps.size=a.tmps.size:=by
 cases dst<;>simp[Act.put]
theorem kD(a:aBe)(d:Tmp)(v:aA4)(t:Tmp)(h:d<a.tmps.size):(a.put (some d) v).tmps.getD t undef=if d=t then v else a.tmps.getD t undef:=by
 simp[Act.put,aDn,aG6]
 grind
theorem St.put{F:w8}{O:AS}{dst:Option Tmp}{s:Slot}{new:List (Nat×j2)}{ρ:Nat->LV}{a:aBe}{w w':aAf}{v:aA4}(hc:Core F O.d ρ w)(hs:∀t s,lk O.g t=some s->s.ok ρ (Un F.S0 ρ O.d) w (a.tmps.getD t undef))(hz:a.tmps.size=F.N)(hd:a.defers=F.df)(hf:O.free new=true)(J2:eR dst F.N=true)(hr:y9 ρ (Un F.S0 ρ O.d) w s new v w'):St F (O.put dst s new) (a.put dst v) w':=by
 obtain⟨ρ',C,G,I,K⟩:=hr;obtain⟨L,M,P⟩:=hc.put rfl hf C G K;refine⟨⟨ρ',L,?_⟩,by rw[kC,hz],by cases dst<;>exact hd⟩;have A:∀t s,lk O.g t=some s->s.ok ρ' (Un F.S0 ρ' (new++O.d)) w' (a.tmps.getD t undef):=λt s u=>
  Slot.j5 s _ (hs t s u) P (λj E=>congrArg LV.v (C j (by
   cases hy:aF new j with
   |none=>rfl
   |some e=>exact absurd E ((kB hf hy).1 t s u))))
 intro t B u;cases dst with
 |none=>exact A t B u
 |some d=>
  simp only[AS.put,lk] at u;have D:d<a.tmps.size:=by rw[hz];exact gQ J2
  rw[kD a d v t D];cases hb:Nat.beq d t with
  |true=>
   have:=gP hb;rw[hb] at u;simp at u;subst u;rw[sM this];exact Slot.j5 s v I ⟨gC _,λk _ h=>⟨rfl,λhc=>h ((M k).1 hc)⟩⟩ (λ_ _=>rfl)
  |false=>
   have:d≠t:=λe=>by subst e;simp at hb
   rw[hb] at u;rw[nS this];exact A t B u
theorem aY{F:w8}{O:AS}{ρ:Nat->LV}{a:aBe}{w:aAf}(hc:Core F O.d ρ w)(hs:∀t s,lk O.g t=some s->s.ok ρ (Un F.S0 ρ O.d) w (a.tmps.getD t undef))(xs:Array aAp):M4 O xs ρ (Un F.S0 ρ O.d) a w:=by
 refine⟨λk B=>?_,λx _ s h=>?_,λx _ s h i I A C=>⟨hc.own i A C,λb D=>⟨.inr ⟨i,A,C,D⟩,(hc.fresh i A b C D).2⟩⟩⟩
 ·rcases B with B |⟨i,A,E,G⟩
  ·exact gn (hc.low k B) hc.size
  ·exact(hc.fresh i A k E G).2
 cases x with
 |tmp t=>exact hs t s h
 |const u=>exact(Jy h ρ _ w).1
 |global g=>cases h
 |func f=>cases h
def GK(ops:Array aBa)(g:List (Nat×Slot))(o:aBa)(b:Bool):Prop:=match o.guard with | none=>b=true | some (j,want)=>(∃t x,(ops[j]?).bind (·.dst)=some t/\lk g t=some (.v Fu.bool x)/\(x==want)=b)\/(b=false/\∃t,(ops[j]?).bind (·.dst)=some t/\lk g t=some .top)
theorem GK.none{ops:Array aBa}{g:List (Nat×Slot)}{o:aBa}(h:o.guard= .none):GK ops g o true:=by grind [GK]
theorem GK.some{ops:Array aBa}{g:List (Nat×Slot)}{o:aBa}{j:Nat}{want:Bool}(t:Tmp)(x:Bool)(b:Bool)(h:o.guard= .some (j,want))(ht:(ops[j]?).bind (·.dst)= .some t)
  (hx:lk g t= .some (.v Fu.bool x)) (hb:(x==want)=b):GK ops g o b:=by grind [GK]
theorem Qo{ops:Array aBa}{g:List (Nat×Slot)}{o:aBa}{j:Nat}{want:Bool}(t:Tmp)(h:o.guard= .some (j,want))(ht:(ops[j]?).bind (·.dst)= .some t)
  (hx:lk g t= .some .top):GK ops g o false:=by grind [GK]
theorem yD{ops:Array aBa}{g:List (Nat×Slot)}{o:aBa}{b:Bool}(h:GK ops g o b){ρ S w}{a:aBe}(hs:∀t s,(∃j want,o.guard=Option.some (j,want)/\(ops[j]?).bind (·.dst)=Option.some t)->lk g t=Option.some s->s.ok ρ S w (a.tmps.getD t undef)):Region.wanted o (yielded ops a.tmps)=b:=by
 unfold GK at h;unfold Region.wanted;split at h
 ·rename_i u;rw[u];exact h.symm
 ·rename_i j want u;rcases h with⟨t,x,B,C,D⟩|⟨rfl,t,B,C⟩
  ·have:=hs t _ ⟨j,want,u,B⟩ C;simp only[Slot.ok] at this;have A:=wI.1 this;rw[u];simp only[yielded,B,cA];have:a.tmps[t]? =Option.some (.bool x):=by
    rw[aDn] at A;cases hq:a.tmps[t]? with
    |none=>rw[hq] at A;simp[undef] at A
    |some y=>rw[hq] at A;simpa using A
   rw[this];simp only;rw[<-D];cases x<;>cases want<;>rfl
  ·have:=hs t _ ⟨j,want,u,B⟩ C;simp only[Slot.ok] at this;rw[u];simp only[yielded,B,cA];rw[aDn] at this;cases hq:a.tmps[t]? with
   |none=>rfl
   |some y=>rw[hq] at this;simp at this;subst this;rfl
def J(F:w8)(ops:Array aBa)(os:List aBa)(O O':AS):Prop:=∀Q rest a w,St F O a w->(∀a' w',St F O' a' w'->wpListIn F.fe 0 F.P ops Q rest a' w')->wpListIn F.fe 0 F.P ops Q (os++rest) a w
theorem yS{F:w8}{ops:Array aBa}{Q:aBd->aBe->aAf->Prop}{a:aBe}{w:aAf}{rest:List aBa}{o:aBa}{K:aA4->aAf->Prop}(hw:Region.wanted o (yielded ops a.tmps)=true)(h:j6 F.P o a w K)(k:∀v w',K v w'->wpListIn F.fe 0 F.P ops Q rest (a.put o.dst v) w'):wpListIn F.fe 0 F.P ops Q (o::rest) a w:=by
 unfold wpListIn;rw[sM hw];exact h.wpIn k
theorem Td{F:w8}{ops:Array aBa}{Q:aBd->aBe->aAf->Prop}{a:aBe}{w:aAf}{rest:List aBa}{o:aBa}(hw:Region.wanted o (yielded ops a.tmps)=false)(k:wpListIn F.fe 0 F.P ops Q rest (a.put o.dst undef) w):wpListIn F.fe 0 F.P ops Q (o::rest) a w:=by
 unfold wpListIn;rw[nS (by grind)];exact⟨λ_ _=>trivial,k⟩
section
variable {o:aBa}{yc:AS}
theorem J.nil:J F ops [] O O:=λ_ _ _ _ h k=>k _ _ h
theorem J.cons(g:GK ops O.g o true)(h:JO F o O s new)(hf:O.free new=true)(hd:eR o.dst F.N=true)(k:J F ops os (O.put o.dst s new) O'):J F ops (o::os) O O':=by
 intro Q B a w C D;obtain⟨⟨ρ,A,u⟩,I,K⟩:=C;refine yS (yD g (λt x _ E=>u t _ E)) (h ρ _ a w (aY A u _)) λv L G=>?_;exact k Q B _ _ (St.put A u I K hf hd G) D
theorem AX{ρ:Nat->LV}{S:Nat->Prop}{w:aAf}:y9 ρ S w .top [] undef w:=
 ⟨ρ,λ_ _=>rfl,Below.refl _ _,rfl,⟨λ_ _ h=>by grind [aF],λ_ _ _ h=>by grind [aF],λ_ _ _ _ _ h=>by simp[aF] at h⟩⟩
theorem J.left(g:GK ops O.g o false)(hd:eR o.dst F.N=true)(k:J F ops os (O.put o.dst .top []) O'):J F ops (o::os) O O':=by
 intro Q A a w B C;obtain⟨⟨ρ,E,u⟩,G,I⟩:=B;refine Td (yD g (λt x _ D=>u t _ D)) ?_;exact k Q A _ _ (St.put E u G I rfl hd AX) C
def JM(F:w8)(o:aBa)(O O':AS):Prop:=∀a w,St F O a w->j6 F.P o a w λv u=>St F O' (a.put o.dst v) u
theorem Nu(g:GK ops O.g o true)(h:JM F o O O')(k:J F ops os O' yc):J F ops (o::os) O yc:=by
 intro Q B a w u C;have A:=u;obtain⟨⟨ρ,K,G⟩,L,M⟩:=u;refine yS (yD g (λt x _ D=>G t _ D)) (h a w A) λv I E=>?_;exact k Q B _ _ E C
def Sub(F:w8)(O O':AS):Prop:=∀a w,St F O a w->St F O' a w
theorem J.sub(h:Sub F O O')(k:J F ops os O' yc):J F ops os O yc:=λQ u a w A B=>k Q u a w (h a w A) B
end
def run(Fe:Fence)(P:aA5)(Q:aBd->aBe->aAf->Prop):List aBb->aBe->aAf->Prop | [],a,w=>Q .normal a w | c::cs,a,w=>c.wpIn Fe 0 P (Exit.then (run Fe P Q cs) Q) a w
def W(F:w8)(cs:List aBb)(O:AS)(Q:aBd->aBe->aAf->Prop):Prop:=∀a w,St F O a w->run F.fe F.P Q cs a w
section
variable {cs:List aBb}
theorem aQ{x y:aBb}(h:W F (x::y::cs) O Q):W F (.seq x y::cs) O Q:=by
 intro a w u;refine wpIn_seq (wpIn_mono (h a w u) ?_);intro e a w A;cases e<;>exact A
theorem pS{id:Nat}{ops:List aBa}(h:J F ops.toArray ops O O')(k:W F cs O' Q):W F (.region id ops.toArray false::cs) O Q:=by
 intro a w u;refine wpIn_region_lit ?_;have:=h (Exit.then (run F.fe F.P Q cs) Q) [] a w u (λA B C=>wpListIn_nil (k A B C))
 grind
theorem yT{c:Tmp}{x y:aBb}{b:Bool}(hb:lk O.g c=some (.v Fu.bool b))(ht:b=true->W F (x::cs) O Q)(hf:b=false->W F (y::cs) O Q):W F (.cond (.tmp c) x y::cs) O Q:=by
 intro a w u;obtain⟨ρ,C,B⟩:=u.core;have:=B c _ hb;have A:=wI.1 this;exact wpIn_cond_split (by exact A) (λh=>ht h a w u) (λh=>hf h a w u)
theorem bN(h:W F cs O Q):W F (.skip::cs) O Q:=λa w u=>wpIn_skip (h a w u)
theorem vI(h:Sub F O O')(k:W F cs O' Q):W F cs O Q:=λa w u=>k a w (h a w u)
def XQ(F:w8)(O:AS)(Q:aBd->aBe->aAf->Prop)(e:aBd):Prop:=∀a w,St F O a w->Q e a w
theorem cN(h:XQ F O Q .ret):W F (.ret::cs) O Q:=λa w u=>wpIn_ret (h a w u)
theorem tF{id:Nat}(h:XQ F O Q (.exit id)):W F (.exit id::cs) O Q:=λa w u=>wpIn_exit (h a w u)
theorem VR(h:XQ F O Q .normal):W F [] O Q:=h
theorem fC{id:Nat}{c:aBb}(h:W F [c] O (Exit.inBlock id (Exit.then (run F.fe F.P Q cs) Q))):W F (.block id c::cs) O Q:=by
 intro a w u;refine wpIn_block (wpIn_mono (h a w u) ?_);intro e a w A;cases e<;>exact A
theorem kE{id:Nat}(h:W F cs O Q):W F [] O (Exit.inBlock id (Exit.then (run F.fe F.P Q cs) Q)):=λa w u=>h a w u
theorem XE{id:Nat}(h:W F cs O Q):XQ F O (Exit.inBlock id (Exit.then (run F.fe F.P Q cs) Q)) (.exit id):=
 λa w u=>by simp[Exit.inBlock,K4];exact h a w u
theorem QL{id id':Nat}{N:aBe->aAf->Prop}(G4:Nat.beq id' id=false)(h:XQ F O Q (.exit id')):XQ F O (Exit.inBlock id (Exit.then N Q)) (.exit id'):=by
 intro a w A;have u:id'≠id:=λe=>by simp_all
 simp[Exit.inBlock,nS u];exact h a w A
theorem xQ{id:Nat}{N:aBe->aAf->Prop}(h:XQ F O Q .ret):XQ F O (Exit.inBlock id (Exit.then N Q)) .ret:=h
end
inductive Step (α β:Type) where
 |next (x:α)
 |done (b:β)
def loop{α β:Type}(step:α->Option (Step α β)):Nat->α->Option β
 | 0,_=>none
 |n+1,x=>match step x with
  |none=>none
  |some (.next y)=>loop step n y
  |some (.done b)=>some b
def LQ{α β:Type}(F:w8)(σs:α->AS)(b:β)(Q:aBd->aBe->aAf->Prop):Step α β->aBd->aBe->aAf->Prop | .next y,.normal,a,w=>St F (σs y) a w | .next _,_,_,_=>False | .done _,.normal,_,_=>False | .done b',e,a,w=>b'=b->Q e a w
section
variable {cs:List aBb}
theorem XF{c:aBb}{σs:α->AS}{step:α->Option (Step α β)}{n:Nat}{x:α}{b:β}(hm:loop step n x=some b)(h0:Sub F O (σs x))(h:∀y r,step y=some r->W F [c] (σs y) (LQ F σs b Q r)):W F (.loop c::cs) O Q:=by
 intro a w E;have E:=h0 a w E;let I:aBe->aAf->Prop:=λa w=>∃m y,Sw.loop step m y=some b/\St F (σs y) a w
 let B:aBe->aAf->Nat->Prop:=λa w m=>∃y,Sw.loop step m y=some b/\St F (σs y) a w
 have G:∀a w,I a w->∃m,B a w m/\∀k,B a w k->m<=k:=by
  rintro a w ⟨m,y,u,C⟩;have:∃m,B a w m:=⟨m,y,u,C⟩;clear u C;obtain⟨m,hm⟩:=this
  induction m using Nat.strongRecOn with
  |_ m T=>
   by_cases K:∃k,k<m/\B a w k
   ·obtain⟨k,u,C⟩:=K;exact T k u C
   ·exact⟨m,hm,λk R=>Nat.le_of_not_lt λS=>K ⟨k,S,R⟩⟩
 classical
 let μ:aBe->aAf->Nat:=λa w=>if A:I a w then Classical.choose (G a w A) else 0
 have L:∀a w (A:I a w),B a w (μ a w)/\∀k,B a w k->μ a w<=k:=by
  intro a w A;have:=aHz (G a w A);simp only[μ,dif_pos A];exact this
 refine wpIn_loop (Q:=Exit.then (run F.fe F.P Q cs) Q) I μ ⟨n,x,hm,E⟩ λa w A=>?_;obtain⟨⟨y,u,C⟩,U⟩:=L a w A;cases hn:μ a w with
 |zero=>rw[hn] at u;simp[Sw.loop] at u
 |succ m=>
  rw[hn] at u;simp only[Sw.loop] at u;cases D9:step y with
  |none=>rw[D9] at u;cases u
  |some r=>
   have:=h y r D9 a w C;refine wpIn_mono this ?_;intro e N w' D;cases r with
   |next z=>
    rw[D9] at u;cases e<;>simp only[LQ,Exit.then,run] at D ⊢;have M:I N w':=⟨m,z,u,D⟩;refine⟨M,?_⟩;have:=(L N w' M).2 m ⟨z,u,D⟩;omega
   |done V=>
    rw[D9] at u;simp at u;cases e<;>simp only[LQ,Exit.then,run] at D ⊢<;>exact D u
end
def Fu.sl{α:Type}(e:Fu α):Fu (List α) where
 n:=1
 agg:=false
 ok xs S w cs:=∃a u,cs=[.slice a xs.length u]/\(xs.length<=u/\xs.length<=140737488355328)/\(xs=[]\/∃b A B,a=some ⟨b,A,none⟩/\b<w.heap.size/\¬S b/\r8 w b A B/\e.H8 xs S w B)
 len h:=by obtain⟨a,u,h,_⟩:=h;rw[h];rfl
 one _:=rfl
 cell h c hc:=by obtain⟨a,u,h,_⟩:=h;rw[h] at hc;simp at hc;subst hc;rfl
 mono h k:=by
  obtain⟨a,u,h,F,C⟩:=h;refine⟨a,u,h,F,?_⟩;rcases C with C |⟨b,A,B,G,D,E,I,K⟩
  ·exact .inl C
  ·exact .inr ⟨b,A,B,G,gn D k.size,(k.eh b D E).2,I.mono D E k,Fu.q8 K k⟩
def Fu.arr{α:Type}(m:Nat)(e:Fu α):Fu (List α) where
 n:=m*e.n
 agg:=true
 ok xs S w cs:=xs.length=m/\e.H8 xs S w cs
 len h:=by rw[bG h.2,h.1]
 one h:=by cases h
 cell h:=qK h.2
 mono h k:=⟨h.1,Fu.q8 h.2 k⟩
def Fu.pr{α β:Type}(a:Fu α)(b:Fu β):Fu (α×β) where
 n:=a.n+b.n
 agg:=true
 ok x S w cs:=∃c d,cs=c++d/\a.ok x.1 S w c/\b.ok x.2 S w d
 len h:=by obtain⟨c,d,h,u,A⟩:=h;rw[h,cM,a.len u,b.len A]
 one h:=by cases h
 cell h y hy:=by
  obtain⟨c,d,h,u,A⟩:=h;rw[h] at hy;rcases oq.1 hy with hy | hy
  ·exact a.cell u y hy
  ·exact b.cell A y hy
 mono h k:=by obtain⟨c,d,h,u,A⟩:=h;exact⟨c,d,h,a.mono u k,b.mono A k⟩
def Fu.ah{α:Type}(a:Fu α):Fu α where
 n:=a.n
 agg:=true
 ok:=a.ok
 len:=a.len
 one h:=by cases h
 cell:=a.cell
 mono:=a.mono
def Fu.err(T:aAg):Fu (Option Int) where
 n:=1
 agg:=false
 ok x _ _ cs:=match x with | none=>cs=[.nilIface] | some n=>cs=[.iface T (.int .i64 n)]/\zY .i64 n
 len {x _ _ _} h:=by cases x<;>simp only at h<;>first | (rw[h];rfl) | (rw[h.1];rfl)
 one _:=rfl
 cell {x _ _ _} h c hc:=by
  cases x<;>simp only at h<;>first | (rw[h] at hc;simp at hc;subst hc;rfl) | (rw[h.1] at hc;simp at hc;subst hc;rfl)
 mono h _:=h
theorem lY{α:Type}{e:Fu α}{xs:List α}{S w u}:(Fu.sl e).val xs S w u↔∃a cap,u= .slice a xs.length cap/\(xs.length<=cap/\xs.length<=140737488355328)/\(xs=[]\/∃b off ds,a=some ⟨b,off,none⟩/\b<w.heap.size/\¬S b/\r8 w b off ds/\e.H8 xs S w ds):=by
 constructor
 ·rintro⟨cs,⟨a,cap,A,B⟩,rfl⟩;rw[A];exact⟨a,cap,rfl,B⟩
 ·rintro⟨a,cap,rfl,h⟩;exact⟨_,⟨a,cap,rfl,h⟩,rfl⟩
theorem qM{T:aAg}{S w u}:(Fu.err T).val none S w u↔u= .nilIface:=by
 constructor
 ·rintro⟨cs,h,rfl⟩;rw[h];rfl
 ·rintro rfl;exact⟨_,rfl,rfl⟩
theorem vO{T:aAg}{n:Int}{S w u}:(Fu.err T).val (some n) S w u↔u= .iface T (.int .i64 n)/\zY .i64 n:=by
 constructor
 ·rintro⟨cs,h,rfl⟩;rw[h.1];exact⟨rfl,h.2⟩
 ·rintro⟨rfl,h⟩;exact⟨_,⟨rfl,h⟩,rfl⟩
class F7 {α:Type} (e:Fu α):Prop where
 flat:∀{x S S' w w' cs},e.ok x S w cs->e.ok x S' w' cs
instance (k:aA7):F7 (Fu.int k):=⟨λh=>h⟩
instance:F7 Fu.bool:=⟨λh=>h⟩
instance:F7 Fu.str:=⟨λh=>h⟩
instance (T:aAg):F7 (Fu.err T):=⟨λh=>h⟩
theorem F7.H8{α:Type}{e:Fu α}[F7 e]{S S' w w'}:∀{xs:List α} {cs},e.H8 xs S w cs->e.H8 xs S' w' cs | [],_,h=>h | _::_,_,⟨c,d,h1,h2,h3⟩=>⟨c,d,h1,F7.flat h2,F7.H8 h3⟩
instance {α:Type} (m:Nat) (e:Fu α) [F7 e]:F7 (Fu.arr m e):=⟨λh=>⟨h.1,F7.H8 h.2⟩⟩
instance {α β:Type} (a:Fu α) (b:Fu β) [F7 a] [F7 b]:F7 (Fu.pr a b):=⟨λh=>let ⟨c,d,h,h1,h2⟩:=h;⟨c,d,h,F7.flat h1,F7.flat h2⟩⟩
instance {α:Type} (a:Fu α) [i:F7 a]:F7 (Fu.ah a):=⟨λh=>i.flat (e:=a) h⟩
def O4(P:aA5)(f:aA6)(args:List Slot)(res:Slot)(new:List (Nat×j2)):Prop:=∀S w vs ρ,(∀k,S k->k<w.heap.size)->aG ρ S w args vs->Calls P f vs.toArray w λe u=>∃v,e= .returned v/\y9 ρ S w res new v u
def enum:Nat->List Slot->List (Nat×Slot) | _,[]=>[] | i,s::r=>(i,s)::enum (i+1) r
theorem Ka{ρ S w}:∀(l:List Slot) (vs:List aA4) (i:Nat),aG ρ S w l vs->∀t s,lk (enum i l) t=some s->i<=t/\∃u,vs[t - i]? =some u/\s.ok ρ S w u
 | [],_,_,_,t,s,h=>by grind [enum,lk]
 |x::r,vs,i,C,t,s,h=>by
  obtain⟨u,A,rfl,D,B⟩:=C;simp[enum,lk] at h;cases hb:Nat.beq i t with
  |true=>
   simp_all
  |false=>
   rw[hb] at h;obtain⟨E,F,G,I⟩:=Ka r A (i+1) B t s h
   grind
theorem Ds{ρ S w}:∀{l:List Slot} {vs:List aA4},aG ρ S w l vs->vs.length=l.length
 | [],vs,h=>by grind [aG]
 |x::r,vs,h=>by obtain⟨u,B,rfl,_,A⟩:=h;simp[Ds A]
theorem pU{P:aA5}{fn:Func}{tmps:Array aA4}{R R':Ending->aAf->Prop}(hR:∀e w,R e w->R' e w):∀{ds:List Deferred} {u:FrameMode} {w:aAf},LeavesInM Fence.wide 0 P fn tmps R ds u w->LeavesInM Fence.wide 0 P fn tmps R' ds u w
 | [],.returning,w,h=>by obtain⟨v,A,B⟩:=h;exact⟨v,A,hR _ _ B⟩
 | [],.panicking chain,w,h=>hR _ _ h
 | [],.run,w,h=>h
 |d::ds,u,w,h=>by
  obtain⟨F,h⟩:=h;refine⟨F,?_⟩;rcases h with⟨r,E,A,B,D⟩|⟨A,G,I,f,args,B,D,K,L⟩
  ·exact .inl ⟨r,E,A,B,pU hR D⟩
  ·refine .inr ⟨A,G,I,f,args,B,D,K,?_⟩;refine CallsDIn.mono L ?_;intro e M E C;cases e
   ·exact pU hR C
   ·exact pU hR C
   ·exact hR _ _ C
theorem Kb{P:aA5}{fn:Func}{R R':Ending->aAf->Prop}(hR:∀e w,R e w->R' e w){e:aBd}{a:aBe}{w:aAf}(h:bodyPostM Fence.wide 0 P fn R e a w):bodyPostM Fence.wide 0 P fn R' e a w:=by
 cases e
 case goto | exit=>exact h.elim
 case normal | ret=>exact pU hR h
 case panic=>exact pU hR h
 case outgrown=>exact hR _ _ h
def Ad(F:w8)(fn:Func)(res:Slot)(new:List (Nat×j2)):aBd->aBe->aAf->Prop:=bodyPostM Fence.wide 0 F.P fn λe u=>∃v,e= .returned v/\∀ρ,y9 ρ F.S0 F.w0 res new v u
def aO3(P:aA5)(fn:Func)(tmps:Array aA4)(R:aA4->aAf->Prop):List Deferred->aAf->Prop | [],w=>∃v,(results fn tmps).run P w= .ok v w/\R v w | d::ds,w=>∃r w',d.target= .collected r/\(Instr.takeDeferred r).run P w= .ok [] w'/\aO3 P fn tmps R ds w'
theorem aO3.leaves{P:aA5}{fn:Func}{tmps:Array aA4}{R:aA4->aAf->Prop}{R':Ending->aAf->Prop}(hR:∀v w,R v w->R' (.returned v) w):∀{ds:List Deferred} {w:aAf},aO3 P fn tmps R ds w->LeavesInM Fence.wide 0 P fn tmps R' ds .returning w
 | [],w,h=>by obtain⟨v,u,A⟩:=h;exact⟨v,u,hR _ _ A⟩
 |d::ds,w,h=>by
  obtain⟨r,B,u,A,C⟩:=h;exact⟨by simp,.inl ⟨r,B,u,A,C.leaves hR⟩⟩
structure bp (F F':w8):Prop where
 P:F'.P=F.P
 S:∀k,F.S0 k->F'.S0 k
 size:F.w0.heap.size<=F'.w0.heap.size
 low:∀k,F.S0 k->k<F.w0.heap.size
 frame:∀k,k<F.w0.heap.size->¬F.R k->F'.w0.heap[k]? =F.w0.heap[k]?/\¬F'.R k
 os:F'.w0.os=F.w0.os
 tape:F'.w0.tape=F.w0.tape
 output:F'.w0.output=F.w0.output
 fresh:∀k,F'.R k->F.w0.heap.size<=k\/F.R k
 df:∀d∈F'.df,∃r,d.target= .collected r/\F'.S0 r/\¬F'.R r/\F.w0.heap.size<=r/\F'.w0.heap[r]? =some (.deferred (some []))
 nd:F'.df.Pairwise λd d'=>d.target≠d'.target
theorem bp.refl{F:w8}(hl:∀k,F.S0 k->k<F.w0.heap.size)(hd:F.df=[]):bp F F:=
 ⟨rfl,λ_ h=>h,gC _,hl,λ_ _ h=>⟨rfl,h⟩,rfl,rfl,rfl,λ_ h=> .inr h,by grind,by simp_all⟩
theorem O4.of{P:aA5}{f:aA6}{fn:Func}{c:aBb}{N:Nat}{args:List Slot}{res:Slot}{new:List (Nat×j2)}(hf:P.funcs[f]? =some fn)(hb:fn.body=some c)(hN:fn.ntmps=N)(hle:Nat.ble args.length N=true)(h:∀S w,bp ⟨P,N,S,w,λ_=>False,none,[]⟩ ⟨P,N,S,w,λ_=>False,none,[]⟩->W ⟨P,N,S,w,λ_=>False,none,[]⟩ [c] ⟨enum 0 args,[]⟩ (Ad ⟨P,N,S,w,λ_=>False,none,[]⟩ fn res new)):O4 P f args res new:=by
 intro S w vs ρ J0 hv;refine(callsIn_wide (n:=0)).1 (callsIn_of_wp_marks hf hb trivial ?_);have M:=Ds hv;have hle:=gQ hle;have F:St ⟨P,N,S,w,λ_=>False,none,[]⟩ ⟨enum 0 args,[]⟩ { tmps:=vs.toArray++Array.replicate (fn.ntmps - vs.toArray.size) undef,defers:=[] } w:= ?_
 ·have A:=h S w (.refl J0 rfl) _ w F;refine wpIn_mono A ?_;have G:∀e a w',Ad ⟨P,N,S,w,λ_=>False,none,[]⟩ fn res new e a w'->bodyPostM Fence.wide 0 P fn (λe w'=>∃v,e= .returned v/\y9 ρ S w res new v w') e a w':=λe a w' D=>Kb (λe w ⟨v,A,E⟩=>⟨v,A,E ρ⟩) D;intro e a w' D;cases e<;>exact G _ _ _ D
 ·refine⟨⟨ρ,⟨J0,gC _,λ_ _ _=>rfl,rfl,rfl,rfl,λi C h=>by simp[aF] at h,λi C b h=>by simp[aF] at h,λi j C O b h=>by simp[aF] at h,λi C b h=>by simp[aF] at h⟩,λt s K=>?_⟩,?_,rfl⟩
  ·obtain⟨_,u,A,E⟩:=Ka args vs 0 hv t s K;have I:t<vs.length:=by
    rcases jl t vs.length with h | h
    ·exact h
    ·simp[zy h] at A
   have:(vs.toArray++Array.replicate (fn.ntmps - vs.toArray.size) undef).getD t undef=u:=by
    rw[aDn,aHc (by simpa using I)];simp at A ⊢;rw[A];rfl
   rw[this];exact Slot.j5 s u E ⟨gC _,λk _ L=>⟨rfl,λB=>L (by rcases B with B |⟨i,C,B,_⟩;exact B;simp[aF] at B)⟩⟩ (λ_ _=>rfl)
  ·simp only[aIb,aF8,aHp];omega
def sP(a:aBe):ResultVar->Sem aA4
 | .tmp t=>pure (a.tmps.getD t undef)
 | .cell c t=>do loadVar t (<-asAddr (a.tmps.getD c undef))
def RV(F:w8)(O:AS)(rv:ResultVar)(s:Slot):Prop:=∀(ρ:Nat->LV) (a:aBe) (w:aAf),Core F O.d ρ w->(∀t s,lk O.g t=some s->s.ok ρ (Un F.S0 ρ O.d) w (a.tmps.getD t undef))->∃v,(sP a rv).run F.P w= .ok v w/\s.ok ρ (Un F.S0 ρ O.d) w v
theorem RV.tmp{F:w8}{O:AS}{t:Tmp}{s:Slot}(h:lk O.g t=some s):RV F O (.tmp t) s:=λ_ a _ _ u=>⟨a.tmps.getD t undef,rfl,u t s h⟩
inductive K5:List (Nat×j2)->List (Nat×j2)->Prop
 |nil {d}:K5 [] d
 |cons {d i en r}:aF d i=some en->K5 r d->K5 ((i,en)::r) d
theorem K5.spec{n d:List (Nat×j2)}(h:K5 n d):∀i en,aF n i=some en->aF d i=some en:=by
 induction h<;>grind [aF,Nat.beq,Nat.eq_of_beq_eq_true]
def gH(res:Slot)(new:List (Nat×j2)):Bool:=res.E1.all (λi=>(aF new i).isSome) && new.all λx=>x.2.E1.all λi=>(aF new i).isSome
theorem y9.O2{F:w8}{O:AS}{ρ:Nat->LV}{w:aAf}{v:aA4}{res:Slot}{new:List (Nat×j2)}(hR:∀k,¬F.R k)(hc:Core F O.d ρ w)(hr:res.ok ρ (Un F.S0 ρ O.d) w v)(hn:K5 new O.d)(D6:gH res new=true)(ρ0:Nat->LV):y9 ρ0 F.S0 F.w0 res new v w:=by
 have B:=hn.spec;simp only[gH,bm,nE] at D6;let ρ':Nat->LV:=λi=>if (aF new i).isSome then ρ i else ρ0 i
 have A:∀i,(aF new i).isSome=true->ρ' i=ρ i:=λi h=>sM h
 have K:Ext (Un F.S0 ρ O.d) (Un F.S0 ρ' new) w w:=⟨gC _,λk _ G=>⟨rfl,λh=>G (by
  rcases h with h |⟨i,u,E,I⟩
  ·exact .inl h
  ·exact .inr ⟨i,u,B i u E,by rw[<-A i (by rw[E];rfl)];exact I⟩)⟩⟩
 refine⟨ρ',λi h=>by simp[ρ',h],⟨hc.os,hc.tape,hc.output,hc.size,λk G=>hc.frame k G (hR k)⟩,Slot.j5 res v hr K (λi C=>congrArg LV.v (A i (D6.1 i C))),⟨λi u h=>?_,λi u b h L=>?_,λi j u M b C D N bj=>?_⟩⟩
 ·rw[A i (by rw[h];rfl)];exact j2.j5 (hc.own i u (B i u h)) K (λj D=>congrArg LV.v (A j (D6.2 _ (lH h) j D))) (λ_ _=>rfl)
 ·rw[A i (by rw[h];rfl)] at L;obtain⟨E,I⟩:=hc.fresh i u b (B i u h) L;exact⟨E.resolve_right (hR b),I⟩
 ·rw[A i (by rw[C];rfl)] at N;rw[A j (by rw[D];rfl)] at bj;exact hc.inj i j u M b (B i u C) (B j M D) N bj
theorem uC(fn:Func)(a:aBe):results fn a.tmps=(do
  let vs<-fn.results.mapM (sP a)
  pure (if h:vs.size=1 then vs[0] else .tuple vs)):=rfl
theorem AY{P:aA5}{S0:Nat->Prop}{B:Nat}:∀(ds:List Deferred) (w:aAf),(∀d∈ds,∃r,d.target= .collected r/\S0 r/\B<=r/\w.heap[r]? =some (.deferred (some [])))->ds.Pairwise (λd d'=>d.target≠d'.target)->
  ∃w',w'.heap.size=w.heap.size/\(∀k,¬(S0 k/\B<=k)->w'.heap[k]? =w.heap[k]?)/\w'.os=w.os/\w'.tape=w.tape/\w'.output=w.output/\
   ∀fn tmps R,(∃v,(results fn tmps).run P w'= .ok v w'/\R v w')->aO3 P fn tmps R ds w
 | [],w,_,_=>⟨w,rfl,λ_ _=>rfl,rfl,rfl,rfl,λ_ _ _ h=>h⟩
 |d::ds,w,h,A=>by
  obtain⟨r,E,K,L,M⟩:=h d kg;rw[List.pairwise_cons] at A;have G:∀e∈ds,∃u,e.target= .collected u/\S0 u/\B<=u/\(w.putObj r (.deferred none)).heap[u]? =some (.deferred (some [])):=by
   intro e C;obtain⟨u,F,N,O,Q⟩:=h e (kf _ C);refine⟨u,F,N,O,?_⟩;rw[World.putObj_heap_other];exact Q;rintro rfl;exact A.1 e C (E.trans F.symm)
  obtain⟨w',S,T,U,V,X,a6⟩:=AY ds (w.putObj r (.deferred none)) G A.2;refine⟨w',by rw[S,World.putObj_size],λk D=>?_,U,V,X,λfn tmps R I=>⟨r,_,E,run_takeDeferred M,a6 fn tmps R I⟩⟩;rw[T k D,World.putObj_heap_other];rintro rfl;exact D ⟨K,L⟩
theorem Core.leave{F F':w8}{d:List (Nat×j2)}{ρ:Nat->LV}{w:aAf}(hF:bp F F')(hc:Core F' d ρ w):∃w',Core F d ρ w'/\Ext (Un F'.S0 ρ d) (Un F.S0 ρ d) w w'/\∀fn tmps R,(∃v,(results fn tmps).run F.P w'= .ok v w'/\R v w')->aO3 F.P fn tmps R F'.df w:=by
 have M:∀x∈F'.df,∃r,x.target= .collected r/\F'.S0 r/\F.w0.heap.size<=r/\w.heap[r]? =some (.deferred (some [])):=by
  intro x E;obtain⟨r,A,D,U,V,L⟩:=hF.df x E;exact⟨r,A,D,V,by rw[hc.frame r (aDl.1 L).1 U];exact L⟩
 obtain⟨w',G,I,X,a4,a5,a6⟩:=AY (P:=F.P) F'.df w M hF.nd;have N:∀k,Un F.S0 ρ d k->Un F'.S0 ρ d k:=λk h=>h.imp (hF.S k) (λh=>h);have K:Ext (Un F'.S0 ρ d) (Un F.S0 ρ d) w w':=⟨by rw[G];exact gC _,λk _ C=>⟨I k λh=>C (.inl h.1),λh=>C (N k h)⟩⟩;have O:∀i u b,aF d i=some u->mS (ρ i) b->w'.heap[b]? =w.heap[b]? :=λi u b h B=>I b λE=>hc.apart i u b h B E.1
 refine⟨w',⟨hF.low,by rw[G];exact eo hF.size hc.size,λk C Q=>?_,X.trans (hc.os.trans hF.os),a4.trans (hc.tape.trans hF.tape),a5.trans (hc.output.trans hF.output),λi u h=>j2.j5 (hc.own i u h) K (λ_ _=>rfl) (λb B=>O i u b h B),
  λi u b h B=>?_,hc.inj,λi u b h B T=>hc.apart i u b h B (hF.S b T)⟩,K,a6⟩
 ·obtain⟨A,D⟩:=hF.frame k C Q;rw[I k (λh=>by omega),hc.frame k (gn C hF.size) D,A]
 ·obtain⟨A,D⟩:=hc.fresh i u b h B;refine⟨?_,by rw[G];exact D⟩;rcases A with A | A
  ·exact .inl (eo hF.size A)
  ·exact hF.fresh b A
theorem vP{F F':w8}{O:AS}{fn:Func}{R:Ending->aAf->Prop}(hF:bp F F')(h:∀(ρ:Nat->LV) (a:aBe) (w:aAf),Core F O.d ρ w->(∀t s,lk O.g t=some s->s.ok ρ (Un F.S0 ρ O.d) w (a.tmps.getD t undef))->∃v,(results fn a.tmps).run F.P w= .ok v w/\R (.returned v) w):XQ F' O (bodyPostM Fence.wide 0 F.P fn R) .ret:=by
 intro a w A;obtain⟨⟨ρ,C,D⟩,L,hd⟩:=A;obtain⟨E,G,I,K⟩:=C.leave hF;have u:=h ρ a E G λt s B=>Slot.j5 s _ (D t s B) I (λ_ _=>rfl);show LeavesInM Fence.wide 0 F.P fn a.tmps R a.defers .returning w;rw[hd];exact(K fn a.tmps (λv w=>R (.returned v) w) u).leaves λ_ _ h=>h
theorem Te{P:aA5}{fn:Func}{a:aBe}{w:aAf}{rv:ResultVar}{v:aA4}(N3:fn.results= #[rv])(h1:(sP a rv).run P w= .ok v w):(results fn a.tmps).run P w= .ok v w:=by
 simp_all [uC]
theorem Tf{P:aA5}{fn:Func}{a:aBe}{w:aAf}{rv rv':ResultVar}{v v':aA4}(N3:fn.results= #[rv,rv'])(h1:(sP a rv).run P w= .ok v w)(Z8:(sP a rv').run P w= .ok v' w):(results fn a.tmps).run P w= .ok (.tuple #[v,v']) w:=by
 simp_all [uC]
theorem Tg{P:aA5}{fn:Func}{a:aBe}{w:aAf}{rv rv' rv2:ResultVar}{v v' v2:aA4}(N3:fn.results= #[rv,rv',rv2])(h1:(sP a rv).run P w= .ok v w)(Z8:(sP a rv').run P w= .ok v' w)(h12:(sP a rv2).run P w= .ok v2 w):(results fn a.tmps).run P w= .ok (.tuple #[v,v',v2]) w:=by
 simp_all [uC]
theorem aBh{ρ:Nat->LV}{S:Nat->Prop}{w:aAf}{s s':Slot}{v v':aA4}(h2:s.ok ρ S w v)(X3:s'.ok ρ S w v'):(Slot.q9 [s,s']).ok ρ S w (.tuple #[v,v']):=⟨[v,v'],rfl,by grind [aG]⟩
theorem aBi{ρ:Nat->LV}{S:Nat->Prop}{w:aAf}{s s' s2:Slot}{v v' v2:aA4}(h2:s.ok ρ S w v)(X3:s'.ok ρ S w v')(h22:s2.ok ρ S w v2):(Slot.q9 [s,s',s2]).ok ρ S w (.tuple #[v,v',v2]):=⟨[v,v',v2],rfl,by grind [aG]⟩
section
variable {fn:Func}{rv rv' rv2:ResultVar}{s' s2:Slot}
theorem vQ(hF:bp F F')(hR:∀k,¬F.R k)(N3:fn.results= #[rv])(h:RV F O rv res)(hn:K5 new O.d)(D6:gH res new=true):XQ F' O (Ad F fn res new) .ret:=
 vP hF λρ a w u A=>by
  obtain⟨v,B,C⟩:=h ρ a w u A;exact⟨v,Te N3 B,v,rfl,y9.O2 hR u C hn D6⟩
theorem tG(hF:bp F F')(hR:∀k,¬F.R k)(N3:fn.results= #[rv,rv'])(h:RV F O rv s)(h':RV F O rv' s')(hn:K5 new O.d)(D6:gH (.q9 [s,s']) new=true):XQ F' O (Ad F fn (.q9 [s,s']) new) .ret:=
 vP hF λρ a w u A=>by
  obtain⟨v,B,C⟩:=h ρ a w u A;obtain⟨G,D,E⟩:=h' ρ a w u A;exact⟨_,Tf N3 B D,_,rfl,y9.O2 hR u (aBh C E) hn D6⟩
theorem QM(hF:bp F F')(hR:∀k,¬F.R k)(N3:fn.results= #[rv,rv',rv2])(h:RV F O rv s)(h':RV F O rv' s')(h'':RV F O rv2 s2)(hn:K5 new O.d)(D6:gH (.q9 [s,s',s2]) new=true):XQ F' O (Ad F fn (.q9 [s,s',s2]) new) .ret:=
 vP hF λρ a w u A=>by
  obtain⟨v,B,C⟩:=h ρ a w u A;obtain⟨K,D,E⟩:=h' ρ a w u A;obtain⟨L,G,I⟩:=h'' ρ a w u A;exact⟨_,Tg N3 B D G,_,rfl,y9.O2 hR u (aBi C E I) hn D6⟩
end
theorem y9.same{ρ:Nat->LV}{S:Nat->Prop}{w:aAf}{s:Slot}{v:aA4}(h:s.ok ρ S w v):y9 ρ S w s [] v w:=
 ⟨ρ,λ_ _=>rfl,Below.refl _ _,Slot.j5 s v h ⟨gC _,λk _ u=>⟨rfl,λh=>u (by
  rcases h with h |⟨i,A,B,_⟩<;>grind [aF])⟩⟩ (λ_ _=>rfl),⟨λ_ _ h=>by simp[aF] at h,λ_ _ _ h=>by grind [aF],λ_ _ _ _ _ h=>by simp[aF]⟩⟩
theorem xE(k:aA7)(n:Int):zY k (k.wrap n):=by
 unfold zY;cases k<;>simp only[IntKind.min,IntKind.max,IntKind.wrap,IntKind.signed,IntKind.bits]<;>simp<;>omega
section
variable {d:Option Tmp}{x y c:aAp}
theorem aZ(hx:aV O.g x=some s):JO F ⟨d,.move x,ty,p,af,gd⟩ O s []:=
 λ_ _ _ w K=>j6.value (w':=w) (rfl) (y9.same (K.slot x (by simp[Op.operands]) s hx))
theorem dJ(hx:aV O.g x=some s):JO F ⟨d,.assign x,ty,p,af,gd⟩ O s []:=
 λ_ _ _ w K=>j6.value (w':=w) (rfl) (y9.same (K.slot x (by simp[Op.operands]) s hx))
theorem Th{α:Type}(e:Fu α)(ρ:Nat->LV)(S:Nat->Prop)(w:aAf):(Slot.v (Fu.sl e) []).ok ρ S w (.slice none 0 0):=by
 simp[Slot.ok,lY]
theorem vR{α:Type}(e:Fu α):JO F ⟨d,.assign (.const (.slice none 0 0)),ty,p,af,gd⟩ O (.v (Fu.sl e) []) []:=λρ S _ w _=>j6.value (w':=w) (rfl) (y9.same (Th e ρ S w))
theorem Nv(T:aAg)(ρ:Nat->LV)(S:Nat->Prop)(w:aAf):(Slot.v (Fu.err T) none).ok ρ S w .nilIface:=qM.2 rfl
theorem xR(T:aAg):JO F ⟨d,.assign (.const .nilIface),ty,p,af,gd⟩ O (.v (Fu.err T) none) []:=λρ S _ w _=>j6.value (w':=w) (rfl) (y9.same (Nv T ρ S w))
theorem Kc{α:Type}{w:aAf}{S:Nat->Prop}(T:aAg)(e:Fu α)(i:Nat)(ρ:Nat->LV):y9 ρ S w (.ref i) [(i,.arr T e [])] (.slice none 0 0) w:=by
 refine⟨λj=>if j=i then .of (.slice none 0 0) else ρ j,λj B=>?_,Below.refl _ _,by simp only[Slot.ok,K4];exact⟨.inl ⟨_,_,_,rfl⟩,rfl⟩,⟨λj A h=>?_,λj A b h u=>?_,λj k A C b h D u _=>?_⟩⟩
 ·have:j≠i:=λe=>by subst e;simp[aF] at B
  simp[this]
 ·simp only[aF] at h;cases u:Nat.beq i j with
  |true=>have:=gP u;subst this;rw[u] at h;simp at h;subst h;exact .inl ⟨rfl,by simp[LV.of]⟩
  |false=>rw[u] at h;simp at h
 ·grind [aF,Nat.beq,Nat.eq_of_beq_eq_true,nN,E2]
 grind [aF,Nat.beq,Nat.eq_of_beq_eq_true,nN,E2]
theorem uS{α:Type}(i:Nat)(T:aAg)(e:Fu α):JO F ⟨d,.assign (.const (.slice none 0 0)),ty,p,af,gd⟩ O (.ref i) [(i,.arr T e [])]:=λρ _ _ w _=>j6.value (w':=w) (rfl) (Kc T e i ρ)
theorem Ct{O:AS}{xs:Array aAp}{ρ S a w}(K:M4 O xs ρ S a w){x:aAp}(hm:x∈xs){b:Bool}(hx:aV O.g x=some (.v Fu.bool b)):a.eval x= .bool b:=by
 have:=K.slot x hm _ hx;exact wI.1 this
theorem dC{O:AS}{xs:Array aAp}{ρ S a w}(K:M4 O xs ρ S a w){x:aAp}(hm:x∈xs){k:aA7}{n:Int}(hx:aV O.g x=some (.v (Fu.int k) n)):a.eval x= .int k n/\zY k n:=by
 have:=K.slot x hm _ hx;exact lG.1 this
theorem iA(b:Bool)(ρ:Nat->LV)(S:Nat->Prop)(w:aAf):(Slot.v Fu.bool b).ok ρ S w (.bool b):=wI.2 rfl
theorem pE{k:aA7}{n:Int}(h:zY k n)(ρ:Nat->LV)(S:Nat->Prop)(w:aAf):(Slot.v (Fu.int k) n).ok ρ S w (.int k n):=lG.2 ⟨rfl,h⟩
theorem IT(hc:aV O.g c=some (.v Fu.bool true))(hx:aV O.g x=some s):JO F ⟨d,.pick c x y,ty,p,af,gd⟩ O s []:=
 λ_ _ _ w K=>j6.value (w':=w) (by simp[execOp,Ct K (by simp[Op.operands]) hc,asBool]) (y9.same (K.slot x (by simp[Op.operands]) s hx))
theorem IU(hc:aV O.g c=some (.v Fu.bool false))(hy:aV O.g y=some s):JO F ⟨d,.pick c x y,ty,p,af,gd⟩ O s []:=
 λ_ _ _ w K=>j6.value (w':=w) (by simp[execOp,Ct K (by simp[Op.operands]) hc,asBool]) (y9.same (K.slot y (by simp[Op.operands]) s hy))
theorem yU{o:BinOp}{T T':aAg}{v:aA4}{k k':aA7}{m n:Int}{ρ:Nat->LV}{S:Nat->Prop}{a:aBe}{w:aAf}{s:Slot}(h1:a.eval x= .int k m)(h2:a.eval y= .int k' n)(h:(Go.binOp o T (.int k m) (.int k' n)).run F.P w= .ok v w)(hs:s.ok ρ S w v):j6 F.P ⟨d,.binOp o T x y T',ty,p,af,gd⟩ a w (y9 ρ S w s []):=by
 refine j6.value ?_ (y9.same hs)
 simp_all [execOp,eqGuard,run]
def ar(o:BinOp)(k:aA7)(m n:Int):Int:=match o with | .add=>k.wrap (m+n) | .sub=>k.wrap (m - n) | .mul=>k.wrap (m*n) | .quo=>k.wrap (m.tdiv n) | .rem=>m.tmod n | .and=>k.wrap (BitVec.ofInt k.bits m &&& BitVec.ofInt k.bits n).toNat | .or=>k.wrap (BitVec.ofInt k.bits m ||| BitVec.ofInt k.bits n).toNat | .xor=>k.wrap (BitVec.ofInt k.bits m ^^^ BitVec.ofInt k.bits n).toNat | .andNot=>k.wrap (BitVec.ofInt k.bits m &&& ~~~ BitVec.ofInt k.bits n).toNat | _=>0
def cm(o:BinOp)(m n:Int):Bool:=match o with | .eql=>m==n | .neq=>m != n | .lss=>decide (m<n) | .leq=>decide (m<=n) | .gtr=>decide (m>n) | .geq=>decide (m>=n) | _=>false
def XG:BinOp->Bool | .add | .sub | .mul | .and | .or | .xor | .andNot=>true | _=>false
def aBj:BinOp->Bool | .eql | .neq | .lss | .leq | .gtr | .geq=>true | _=>false
theorem lI{o:BinOp}{T T':aAg}{k:aA7}{m n:Int}(ho:XG o=true)(hx:aV O.g x=some (.v (Fu.int k) m))(hy:aV O.g y=some (.v (Fu.int k) n)):JO F ⟨d,.binOp o T x y T',ty,p,af,gd⟩ O (.v (Fu.int k) (ar o k m n)) []:=by
 intro ρ S a w K;refine yU (dC K (by simp[Op.operands]) hx).1 (dC K (by simp[Op.operands]) hy).1 ?_ (pE ?_ ρ S w)
 ·cases o<;>simp[XG] at ho<;>simp[binOp,Op.intArith,Op.intBits,ar]
 ·cases o<;>simp[XG] at ho<;>exact xE _ _
theorem QN{k:aA7}{m n:Int}(h:zY k m):zY k (m.tmod n):=by
 unfold zY at*;have u:(m.tmod n).natAbs<=m.natAbs:=by simp[Int.natAbs_tmod,Nat.mod_le]
 have A:0<=m->0<=m.tmod n:=λh=>Int.tmod_nonneg _ h;have B:=λh=>by
  have:=Int.tmod_nonneg n (a:= -m) (by omega);rw[Int.neg_tmod] at this;omega
 have C:k.min<=0:=by cases k<;>decide
 have D:0<=k.max:=by cases k<;>decide
 omega
theorem Gd{o:BinOp}{T T':aAg}{k:aA7}{m n:Int}(ho:o= .quo\/o= .rem)(hn:n≠0)(hx:aV O.g x=some (.v (Fu.int k) m))(hy:aV O.g y=some (.v (Fu.int k) n)):JO F ⟨d,.binOp o T x y T',ty,p,af,gd⟩ O (.v (Fu.int k) (ar o k m n)) []:=by
 intro ρ S a w K;refine yU (dC K (by simp[Op.operands]) hx).1 (dC K (by simp[Op.operands]) hy).1 ?_ (pE ?_ ρ S w)
 ·rcases ho with rfl | rfl<;>simp[binOp,Op.intDiv,hn,ar]
 ·rcases ho with rfl | rfl
  ·exact xE _ _
  ·exact QN (dC K (by simp[Op.operands]) hx).2
theorem Kd{o:BinOp}{T T':aAg}{k:aA7}{m n:Int}(ho:aBj o=true)(hx:aV O.g x=some (.v (Fu.int k) m))(hy:aV O.g y=some (.v (Fu.int k) n)):JO F ⟨d,.binOp o T x y T',ty,p,af,gd⟩ O (.v Fu.bool (cm o m n)) []:=by
 intro ρ S a w K;refine yU (dC K (by simp[Op.operands]) hx).1 (dC K (by simp[Op.operands]) hy).1 ?_ (iA _ ρ S w);cases o<;>simp[aBj] at ho<;>simp[binOp,Op.intCmp,cm]
def sh(o:BinOp)(k:aA7)(m n:Int):Int:=match o with | .shl=>k.wrap (m*2 ^ min n.toNat k.bits) | .shr=>m.fdiv (2 ^ min n.toNat k.bits) | _=>0
theorem XH{k:aA7}{m:Int}(h:zY k m)(j:Nat):zY k (m.fdiv (2 ^ j)):=by
 unfold zY at*;have u:(0:Int)<2 ^ j:=Int.pow_pos (by simp);have A:k.min<=0:=by cases k<;>decide
 have B:0<=k.max:=by cases k<;>decide
 rw[aEa _ (Int.le_of_lt u)];constructor
 ·refine(Int.le_ediv_iff_mul_le u).2 ?_;have:k.min*2 ^ j<=k.min*1:=Int.mul_le_mul_of_nonpos_left A (by omega);omega
 ·refine Int.le_trans (Int.ediv_le_ediv u h.2) ?_
  simp_all [Int.ediv_le_self]
theorem Am{o:BinOp}{T T':aAg}{k k':aA7}{m n:Int}(ho:o= .shl\/o= .shr)(hn:0<=n)(hx:aV O.g x=some (.v (Fu.int k) m))(hy:aV O.g y=some (.v (Fu.int k') n)):JO F ⟨d,.binOp o T x y T',ty,p,af,gd⟩ O (.v (Fu.int k) (sh o k m n)) []:=by
 intro ρ S a w K;refine yU (dC K (by simp[Op.operands]) hx).1 (dC K (by simp[Op.operands]) hy).1 ?_ (pE ?_ ρ S w)
 ·have:¬n<0:=by omega
  rcases ho with rfl | rfl<;>simp[binOp,Op.shift,this,sh]
 ·rcases ho with rfl | rfl
  ·exact xE _ _
  ·exact XH (dC K (by simp[Op.operands]) hx).2 _
theorem Qp{T:aAg}{b:Bool}(hx:aV O.g x=some (.v Fu.bool b)):JO F ⟨d,.unOp .not T x,ty,p,af,gd⟩ O (.v Fu.bool (!b)) []:=
 λρ S _ w K=>j6.value (w':=w) (v:= .bool (!b)) (by simp[execOp,Ct K (by simp[Op.operands]) hx,Op.unary]) (y9.same (iA _ ρ S w))
theorem IV{T:aAg}{k:aA7}{n:Int}(hx:aV O.g x=some (.v (Fu.int k) n)):JO F ⟨d,.unOp .neg T x,ty,p,af,gd⟩ O (.v (Fu.int k) (k.wrap (0 - n))) []:=
 λρ S _ w K=>j6.value (w':=w) (v:= .int k (k.wrap (0 - n))) (by simp[execOp,(dC K (by simp[Op.operands]) hx).1,Op.unary,Op.intArith]) (y9.same (pE (xE _ _) ρ S w))
def IW(k:aA7)(n:Int):Int:=k.wrap (BitVec.ofInt k.bits (if k.signed then -1 else k.max) ^^^ BitVec.ofInt k.bits n).toNat
theorem XI{T:aAg}{k:aA7}{n:Int}(hx:aV O.g x=some (.v (Fu.int k) n)):JO F ⟨d,.unOp .xor T x,ty,p,af,gd⟩ O (.v (Fu.int k) (IW k n)) []:=
 λρ S _ w K=>j6.value (w':=w) (v:= .int k (IW k n)) (by simp[execOp,(dC K (by simp[Op.operands]) hx).1,Op.unary,Op.intBits,IW]) (y9.same (pE (xE _ _) ρ S w))
theorem Qq{A B:aAg}{da:aA9}{k k':aA7}{n:Int}(ha:∀w,(underlying A).run F.P w= .ok da w)(hb:∀w,(underlying B).run F.P w= .ok (.int k') w)(hx:aV O.g x=some (.v (Fu.int k) n)):JO F ⟨d,.convert A B x,ty,p,af,gd⟩ O (.v (Fu.int k') (k'.wrap n)) []:=
 λρ S _ w K=>j6.value (w':=w) (v:= .int k' (k'.wrap n)) (by simp[execOp,(dC K (by simp[Op.operands]) hx).1,convert,ha,hb,Conv.intToInt]) (y9.same (pE (xE _ _) ρ S w))
theorem Ti{T:aAg}{n:Int}(ha:∀w,(underlying T).run F.P w= .ok (.int .i64) w)(hx:aV O.g x=some (.v (Fu.int .i64) n)):JO F ⟨d,.makeInterface T x,ty,p,af,gd⟩ O (.v (Fu.err T) (some n)) []:=by
 intro ρ S a w K;obtain⟨A,u⟩:=dC K (by simp[Op.operands]) hx;exact j6.value (v:= .iface T (.int .i64 n)) (by simp_all [execOp,Instr.makeInterface]) (y9.same (vO.2 ⟨rfl,u⟩))
theorem iB{n:Nat}{l:List Slot}(hx:aV O.g x=some (.q9 l))(hs:l[n]? =some s):JO F ⟨d,.extract x n,ty,p,af,gd⟩ O s []:=by
 intro ρ S a w K;have h:=K.slot x (by simp[Op.operands]) _ hx;simp only[Slot.ok] at h;obtain⟨vs,A,B⟩:=h;have u:∀(l:List Slot) (vs:List aA4) (n:Nat),aG ρ S w l vs->l[n]? =some s->∃v,vs[n]? =some v/\s.ok ρ S w v:=by
  intro l
  induction l<;>grind [aG]
 obtain⟨v,C,D⟩:=u l vs n B hs;exact j6.value (w':=w) (v:=v) (by simp[execOp,A,Instr.extract,C]) (y9.same D)
theorem Nw{O:AS}{xs:Array aAp}{ρ S a w}(K:M4 O xs ρ S a w){x:aAp}(hm:x∈xs){T:aAg}{o:Option Int}(hx:aV O.g x=some (.v (Fu.err T) o)):a.eval x=(match o with | none=> .nilIface | some n=> .iface T (.int .i64 n)):=by
 have:=K.slot x hm _ hx;grind [Slot.ok,qM,vO]
theorem Tj(t:aAg)(x y:aA4):Op.equal t x y=Op.equalIn (9998+1+1) t x y:=rfl
theorem Ip{P:aA5}{a:aBe}{w:aAf}{o:BinOp}{T T':aAg}{u v:aA4}{r b:Bool}(ho:(o= .eql/\b=r)\/(o= .neq/\b= !r))(hx:a.eval x=u)(hy:a.eval y=v)(hk:∀k m,u≠.int k m)(hs:∀s,u≠.string s)(hf:∀k m,u≠.float k m)(hc:∀k m n,u≠.complex k m n)(hg:(eqGuard o T x y u v).run P w= .ok () w)(he:(Op.equalIn (9998+1+1) T u v).run P w= .ok r w):(execOp a.eval ⟨d,.binOp o T x y T',ty,p,af,gd⟩).run P w= .ok (.value (.bool b)) w:=by
 have A:(Go.binOp o T u v).run P w= .ok (.bool b) w:=by
  rcases ho with⟨rfl,rfl⟩|⟨rfl,rfl⟩
  ·have:Go.binOp .eql T u v=(do pure (.bool (<-Op.equal T u v))):=by
    cases u<;>first | rfl | (exact absurd rfl (hk _ _)) | (exact absurd rfl (hs _)) | (exact absurd rfl (hf _ _)) | (exact absurd rfl (hc _ _ _))
   rw[this,Tj];simp[he]
  ·have:Go.binOp .neq T u v=(do pure (.bool (!(<-Op.equal T u v)))):=by
    cases u<;>first | rfl | (exact absurd rfl (hk _ _)) | (exact absurd rfl (hs _)) | (exact absurd rfl (hf _ _)) | (exact absurd rfl (hc _ _ _))
   rw[this,Tj];simp[he]
 simp only[execOp,hx,hy];simp[hg,A]
theorem Tk{P:aA5}{w:aAf}{U T:aAg}{ms:Array (String×aAg)}{ti:TypeInfo}(ha:∀w,(underlying U).run P w= .ok (.interface ms) w)(hT:∀w,(underlying T).run P w= .ok (.int .i64) w)(hi:∀w,(typeInfo T).run P w= .ok ti w)(aK3:ti.comparable=true)(m n:Int):(Op.equalIn (9998+1+1) U (.iface T (.int .i64 m)) (.iface T (.int .i64 n))).run P w= .ok (m==n) w:=by
 rw[Op.equalIn];simp only[Sem.run_bind,ha,Result.andThen_ok];simp only[ne_eq,aGt,M5,Sem.run_bind,hi,Result.andThen_ok,aK3,vn,mu];rw[Op.equalIn];simp[hT]
theorem yE{P:aA5}{w:aAf}{U T:aAg}{ms:Array (String×aAg)}(ha:∀w,(underlying U).run P w= .ok (.interface ms) w)(v:aA4):(Op.equalIn (9998+1+1) U (.iface T v) .nilIface).run P w= .ok false w/\(Op.equalIn (9998+1+1) U .nilIface (.iface T v)).run P w= .ok false w/\(Op.equalIn (9998+1+1) U .nilIface .nilIface).run P w= .ok true w:=by
 refine⟨?_,?_,?_⟩<;>(rw[Op.equalIn];simp[ha])
theorem Dt{T U U':aAg}{o:Option Int}{ms:Array (String×aAg)}(ha:∀w,(underlying U).run F.P w= .ok (.interface ms) w)(hx:aV O.g x=some (.v (Fu.err T) o)):JO F ⟨d,.binOp .eql U x (.const .nilIface) U',ty,p,af,gd⟩ O (.v Fu.bool o.isNone) []:=by
 intro ρ S a w K;have h:=Nw K (x:=x) (by simp[Op.operands]) hx;refine j6.value (w':=w) (Ip (r:=o.isNone) ?_ h rfl ?_ ?_ ?_ ?_ ?_ ?_) (y9.same (iA _ ρ S w))
 ·cases o<;>simp
 ·grind
 ·cases o<;>simp
 ·cases o<;>simp
 ·cases o<;>simp
 ·cases o<;>simp[eqGuard,Act.eval]
 ·cases o with
  |none=>exact(yE (T:=T) ha .nilIface).2.2
  |some n=>exact(yE ha _).1
theorem Tl{T U U':aAg}{o:Option Int}{ms:Array (String×aAg)}(ha:∀w,(underlying U).run F.P w= .ok (.interface ms) w)(hx:aV O.g x=some (.v (Fu.err T) o)):JO F ⟨d,.binOp .neq U x (.const .nilIface) U',ty,p,af,gd⟩ O (.v Fu.bool o.isSome) []:=by
 intro ρ S a w K;have h:=Nw K (x:=x) (by simp[Op.operands]) hx;refine j6.value (Ip (r:=o.isNone) ?_ h rfl ?_ ?_ ?_ ?_ ?_ ?_) (y9.same (iA _ ρ S w))
 ·cases o<;>simp
 ·grind
 ·cases o<;>simp
 ·cases o<;>simp
 ·cases o<;>simp
 ·cases o<;>simp[eqGuard,Act.eval]
 ·cases o with
  |none=>exact(yE (T:=T) ha .nilIface).2.2
  |some n=>exact(yE ha _).1
theorem EA{T U U':aAg}{o:Option Int}{n:Int}{ms:Array (String×aAg)}{ti:TypeInfo}(ha:∀w,(underlying U).run F.P w= .ok (.interface ms) w)(hT:∀w,(underlying T).run F.P w= .ok (.int .i64) w)(hi:∀w,(typeInfo T).run F.P w= .ok ti w)(aK3:ti.comparable=true)(hx:aV O.g x=some (.v (Fu.err T) o))(hy:aV O.g y=some (.v (Fu.err T) (some n))):JO F ⟨d,.binOp .eql U x y U',ty,p,af,gd⟩ O (.v Fu.bool (o==some n)) []:=by
 intro ρ S a w K;have h:=Nw K (x:=x) (by simp[Op.operands]) hx;have u:=Nw K (x:=y) (by simp[Op.operands]) hy;refine j6.value (w':=w) (v:= .bool (o==some n)) (Ip (r:=(o==some n)) ?_ h u ?_ ?_ ?_ ?_ ?_ ?_) (y9.same (iA _ ρ S w))
 ·simp
 ·cases o<;>simp
 ·cases o<;>simp
 ·cases o<;>simp
 ·cases o<;>simp
 ·cases o<;>simp[eqGuard]
 ·cases o<;>simp_all [yE,Tk]
theorem EB{T U U':aAg}{o:Option Int}{n:Int}{ms:Array (String×aAg)}{ti:TypeInfo}(ha:∀w,(underlying U).run F.P w= .ok (.interface ms) w)(hT:∀w,(underlying T).run F.P w= .ok (.int .i64) w)(hi:∀w,(typeInfo T).run F.P w= .ok ti w)(aK3:ti.comparable=true)(hx:aV O.g x=some (.v (Fu.err T) o))(hy:aV O.g y=some (.v (Fu.err T) (some n))):JO F ⟨d,.binOp .neq U x y U',ty,p,af,gd⟩ O (.v Fu.bool (!(o==some n))) []:=by
 intro ρ S a w K;have h:=Nw K (x:=x) (by simp[Op.operands]) hx;have u:=Nw K (x:=y) (by simp[Op.operands]) hy;refine j6.value (w':=w) (v:= .bool (!(o==some n))) (Ip (r:=(o==some n)) ?_ h u ?_ ?_ ?_ ?_ ?_ ?_) (y9.same (iA _ ρ S w))
 ·simp
 ·cases o<;>simp
 ·cases o<;>simp
 ·cases o<;>simp
 ·cases o<;>simp
 ·cases o<;>simp[eqGuard]
 ·cases o<;>simp_all [yE,Tk]
theorem EC{U U':aAg}{b b':Bool}(ha:∀w,(underlying U).run F.P w= .ok .bool w)(hx:aV O.g x=some (.v Fu.bool b))(hy:aV O.g y=some (.v Fu.bool b')):JO F ⟨d,.binOp .eql U x y U',ty,p,af,gd⟩ O (.v Fu.bool (b==b')) []:=by
 intro ρ S a w K;refine j6.value (w':=w) (Ip (r:=(b==b')) ?_ (Ct K (x:=x) (by simp[Op.operands]) hx) (Ct K (x:=y) (by simp[Op.operands]) hy) ?_ ?_ ?_ ?_ ?_ ?_) (y9.same (iA _ ρ S w))
 ·simp
 ·simp
 ·simp
 ·simp
 ·simp
 ·simp[eqGuard]
 ·rw[Op.equalIn];simp[ha]
theorem ED{U U':aAg}{b b':Bool}(ha:∀w,(underlying U).run F.P w= .ok .bool w)(hx:aV O.g x=some (.v Fu.bool b))(hy:aV O.g y=some (.v Fu.bool b')):JO F ⟨d,.binOp .neq U x y U',ty,p,af,gd⟩ O (.v Fu.bool (!(b==b'))) []:=by
 intro ρ S a w K;refine j6.value (w':=w) (Ip (r:=(b==b')) ?_ (Ct K (x:=x) (by simp[Op.operands]) hx) (Ct K (x:=y) (by simp[Op.operands]) hy) ?_ ?_ ?_ ?_ ?_ ?_) (y9.same (iA _ ρ S w))
 ·simp
 ·simp
 ·simp
 ·simp
 ·simp
 ·simp[eqGuard]
 ·rw[Op.equalIn];simp[ha]
end
theorem r8.cell{w:aAf}{b off:Nat}{cs:List aA4}(h:r8 w b off cs):∀j v,cs[j]? =some v->w.cell? ((⟨b,off,none⟩:aBc).add j)=some v:=by
 obtain⟨c,T,u,A,B⟩:=h
 grind [Nat.lt_or_ge,List.getElem?_eq_none,List.getElem?_eq_getElem,Addr.add,World.cell?]
theorem r8.sub{w:aAf}{b off:Nat}{a c d:List aA4}(h:r8 w b off (a++(c++d))):r8 w b (off+a.length) c:=by
 obtain⟨r,T,u,A,B⟩:=h;refine⟨r,T,u,A,λj C=>?_⟩;have:=B (a.length+j) (by grind)
 grind
theorem r8.of_heap{w:aAf}{b:Nat}{cs:List aA4}{T fr}(h:w.heap[b]? =some (.cells cs.toArray T fr)):r8 w b 0 cs:=
 ⟨_,T,fr,h,λj u=>by simp⟩
theorem r8.lt{w:aAf}{b off:Nat}{cs:List aA4}(h:r8 w b off cs):b<w.heap.size:=by
 obtain⟨r,T,u,A,B⟩:=h
 grind
theorem Cu{α:Type}{P:aA5}{e:Fu α}{x:α}{S:Nat->Prop}{w w0:aAf}{b off:Nat}{cs:List aA4}{U:aAg}(h:r8 w b off cs)(ho:e.ok x S w0 cs)(hA:∀w,(isAgg U).run P w= .ok e.agg w)(hS:∀w,(sizeOf U).run P w= .ok e.n w):(loadVar U ⟨b,off,none⟩).run P w= .ok (e.pk cs) w:=by
 unfold loadVar;simp only[Sem.run_bind,hA,Result.andThen_ok];have u:=e.len ho;cases ha:e.agg with
 |true=>
  simp[K4,Sem.run_bind,hS,Result.andThen_ok,Fu.pk,ha];rw[<-u,run_loadCells_list w _ cs h.cell];simp
 |false=>
  have A:=e.one ha;rw[A] at u;obtain⟨v,rfl⟩:=aEk.1 u;have:=h.cell 0 v rfl
  simp_all [Addr.add,Fu.pk]
def Slot.sz:Slot->Nat | .v e _=>e.n | _=>1
def Slot.ag:Slot->Bool | .v e _=>e.agg | _=>false
section
variable {ρ:Nat->LV}{S:Nat->Prop}{w:aAf}
theorem mG{s:Slot}{c:List aA4}(h:s.I2 ρ S w c):c.length=s.sz:=by
 cases s<;>simp only[Slot.I2] at h<;>simp only[Slot.sz]
 case v e x=>exact e.len h
 case ref=>rw[h.2];rfl
 case ptr=>rw[h.2];rfl
 case wi=>rw[h.2];rfl
 case el=>rw[h.2];rfl
 case T9=>rw[h.2];rfl
 case esl=>rw[h.2];rfl
 case sub=>grind
 case B8=>grind
 case G0=>grind
 case top=>rw[h];rfl
theorem AZ{s:Slot}{c:List aA4}(h:s.I2 ρ S w c):s.ok ρ S w (if s.ag then .agg c.toArray else c.headD undef):=by
 cases s<;>simp only[Slot.I2] at h<;>simp only[Slot.ok,Slot.ag]
 case v e x=>exact⟨c,h,rfl⟩
 case ref=>rw[h.2];exact⟨h.1,rfl⟩
 case ptr=>rw[h.2];exact⟨h.1,rfl⟩
 case wi=>rw[h.2];exact⟨h.1,rfl⟩
 case el=>rw[h.2];exact⟨h.1,rfl⟩
 case T9=>rw[h.2];exact⟨h.1,rfl⟩
 case esl=>rw[h.2];exact⟨h.1,rfl⟩
 case sub=>obtain⟨u,A,B,C,D,E⟩:=h;rw[E];exact⟨u,A,B,C,D,rfl⟩
 case B8=>grind
 case G0=>obtain⟨vs,h,F⟩:=h;rw[h];exact⟨vs,rfl,F⟩
 case top=>rw[h];rfl
def Slot.plain:Slot->Bool | .agg _=>false | .q9 _=>false | .top=>false | _=>true
theorem pV{s:Slot}{v:aA4}(hp:s.plain=true)(h:s.ok ρ S w v):s.I2 ρ S w v.cells.toList:=by
 cases s<;>simp only[Slot.plain,mu] at hp<;>simp only[Slot.ok] at h<;>simp only[Slot.I2]
 case v e x=>
  obtain⟨cs,A,rfl⟩:=h;unfold Fu.pk;cases ha:e.agg with
  |true=>simpa[Value.cells] using A
  |false=>
   have C:=e.len A;rw[e.one ha] at C;obtain⟨u,rfl⟩:=aEk.1 C;have:=Dr (e.cell A u (by simp));simp[this,A]
 case ref i=>
  obtain⟨⟨a,l,c,A⟩|⟨a,A⟩,rfl⟩:=h
  ·exact⟨.inl ⟨a,l,c,A⟩,by simp[A,Value.cells]⟩
  ·exact⟨.inr ⟨a,A⟩,by simp[A,Value.cells]⟩
 case ptr i B=>obtain⟨⟨b,A⟩,rfl⟩:=h;exact⟨⟨b,A⟩,by simp[A,Al,Value.cells]⟩
 case wi i B k n=>obtain⟨⟨b,A⟩,rfl⟩:=h;exact⟨⟨b,A⟩,by simp[A,Al,Value.cells]⟩
 case el i k n B=>obtain⟨⟨b,o,l,c,A⟩,rfl⟩:=h;exact⟨⟨b,o,l,c,A⟩,by simp[A,Jw,Value.cells]⟩
 case T9 i B lo n cap=>obtain⟨⟨b,A⟩,rfl⟩:=h;exact⟨⟨b,A⟩,by simp[A,IN,Value.cells]⟩
 case esl i B n cap=>obtain⟨⟨b,o,l,c,A⟩,rfl⟩:=h;exact⟨⟨b,o,l,c,A⟩,by simp[A,IP,Value.cells]⟩
 case sub i B n=>obtain⟨⟨a,l,c,A⟩,D,E,F,G,rfl⟩:=h;exact⟨⟨a,l,c,A⟩,D,E,F,G,by rw[A];cases a<;>simp[Tc,Value.cells]⟩
 case B8 e x=>obtain⟨b,B,I,rfl,A⟩:=h;exact⟨b,B,I,rfl,A⟩
 case G0 g cap=>obtain⟨vs,rfl,A⟩:=h;exact⟨vs,rfl,A⟩
def jJ:List Slot->Nat->Option Slot | [],_=>none | s::r,off=>bif Nat.beq off 0 then some s else bif Nat.ble s.sz off then jJ r (off - s.sz) else none
def jK:List Slot->Nat->Slot->List Slot | [],_,_=>[] | s::r,off,s'=>bif Nat.beq off 0 then s'::r else s::jK r (off - s.sz) s'
theorem uD:∀{l:List Slot} {off:Nat} {s:Slot} {cs:List aA4},jJ l off=some s->aL ρ S w l cs->
  ∃a c d,cs=a++(c++d)/\a.length=off/\s.I2 ρ S w c/\∀s' c',s'.I2 ρ S w c'->aL ρ S w (jK l off s') (a++(c'++d))
 | [],_,_,_,h,_=>by simp[jJ] at h
 |t::r,off,s,cs,h,k=>by
  simp only[aL] at k;obtain⟨c,d,rfl,A,C⟩:=k;simp only[jJ] at h;cases hb:Nat.beq off 0 with
  |true=>
   rw[hb] at h;simp at h;subst h;have:=gP hb;subst this;exact⟨[],c,d,rfl,rfl,A,λs' c' u=>by simp only[jK,rh];exact⟨c',d,rfl,u,C⟩⟩
  |false=>
   rw[hb] at h;simp only[cG] at h;cases hle:Nat.ble t.sz off with
   |false=>rw[hle] at h;simp at h
   |true=>
    rw[hle] at h;have L:=gQ hle;obtain⟨D,c',E,F,G,I,K⟩:=uD (l:=r) (by simpa using h) C;refine⟨c++D,c',E,by rw[F,dt],by rw[cM,mG A,G];omega,I,λs' B u=>?_⟩;simp only[jK,hb,cG,aL];exact⟨c,D++(B++E),by rw[dt],A,K s' B u⟩
def X7{α:Type}(l:List Slot)(e:Fu α)(x:α):Prop:=∀ρ S w cs,aL ρ S w l cs↔e.ok x S w cs
theorem X7.one{α:Type}(e:Fu α)(x:α):X7 [.v e x] e x:=by
 intro ρ S w cs;simp[aL,Slot.I2]
theorem wJ{l l':List Slot}{ρ S w}:∀{cs},aL ρ S w (l++l') cs↔∃c d,cs=c++d/\aL ρ S w l c/\aL ρ S w l' d:=by
 induction l with
 |nil=>simp[rh,aL];grind
 |cons t l u=>
  grind [aL]
theorem X7.pr{α β:Type}{l l':List Slot}{a:Fu α}{b:Fu β}{x:α×β}(h:X7 l a x.1)(h':X7 l' b x.2):X7 (l++l') (Fu.pr a b) x:=by
 intro ρ S w cs;rw[wJ];constructor
 ·rintro⟨c,d,rfl,u,A⟩;exact⟨c,d,rfl,(h ρ S w c).1 u,(h' ρ S w d).1 A⟩
 ·rintro⟨c,d,rfl,u,A⟩;exact⟨c,d,rfl,(h ρ S w c).2 u,(h' ρ S w d).2 A⟩
theorem X7.ah{α:Type}{l:List Slot}{a:Fu α}{x:α}(h:X7 l a x):X7 l (Fu.ah a) x:=h
end
theorem IX{ρ:Nat->LV}{S:Nat->Prop}{w w':aAf}{v:aA4}{i:Nat}{en:j2}{s:Slot}(u:LV)(hb:Below w.heap.size w w')(N4:en.E1.all (λj=> !Nat.beq j i)=true)(tn:∀b,mS u b->w.heap.size<=b/\b<w'.heap.size)(Z7:∀S' ρ',(∀k,k<w.heap.size->S' k->S k)->lE ρ ρ' en.E1->en.ok ρ' S' w' u)(hs:∀S' ρ',(∀k,k<w.heap.size->S' k->S k)->(ρ' i).v=u.v->(∀j,j≠i->ρ' j=ρ j)->s.ok ρ' S' w' v):y9 ρ S w s [(i,en)] v w':=by
 let ρ':Nat->LV:=λj=>if j=i then u else ρ j
 have C:ρ' i=u:=sM rfl;have D:∀j,j≠i->ρ' j=ρ j:=λj h=>nS h;have B:∀j A,aF [(i,en)] j=some A->j=i/\A=en:=by
  intro j A h;simp only[aF] at h;cases hb:Nat.beq i j with
  |true=>have:=gP hb;subst this;rw[hb] at h;simp at h;exact⟨rfl,h.symm⟩
  |false=>rw[hb] at h;simp at h
 have E:∀k,k<w.heap.size->Un S ρ' [(i,en)] k->S k:=by
  rintro k O (h |⟨j,A,N,G⟩)
  ·exact h
  ·obtain⟨rfl,rfl⟩:=B j A N;rw[C] at G;have:=(tn k G).1;omega
 refine⟨ρ',λj h=>D j (λe=>by subst e;simp[aF] at h),hb,hs _ _ E (congrArg LV.v C) D,⟨λj A h=>?_,λj A b h F=>?_,λj k A I b h K _ _=>?_⟩⟩
 ·obtain⟨rfl,rfl⟩:=B j A h;rw[C];refine Z7 _ _ E λL M=>congrArg LV.v (D L λe=>?_);subst e;have:=nE.1 N4 _ M;simp at this
 ·obtain⟨rfl,rfl⟩:=B j A h;rw[C] at F;exact tn b F
 ·rw[(B j A h).1,(B k I K).1]
theorem wK{ρ:Nat->LV}{S:Nat->Prop}{w w':aAf}{v:aA4}{i:Nat}{en:j2}{s:Slot}(u:aA4)(hb:Below w.heap.size w w')(N4:en.E1.all (λj=> !Nat.beq j i)=true)(tn:∀b,E2 u=some b->w.heap.size<=b/\b<w'.heap.size)(Z7:∀S' ρ',(∀k,k<w.heap.size->S' k->S k)->lE ρ ρ' en.E1->en.ok ρ' S' w' (.of u))(hs:∀S' ρ',(∀k,k<w.heap.size->S' k->S k)->(ρ' i).v=u->(∀j,j≠i->ρ' j=ρ j)->s.ok ρ' S' w' v):y9 ρ S w s [(i,en)] v w':=IX (.of u) hb N4 (λb h=>tn b (nN.1 h)) Z7 hs
theorem gO(w:aAf)(o:Obj):Below w.heap.size w (w.alloc o):=(Below.refl _ _).alloc (gC _) o
theorem Qr{S S':Nat->Prop}{w w':aAf}(hb:Below w.heap.size w w')(h:∀k,k<w.heap.size->S' k->S k):Ext S S' w w':=qL hb h
theorem y9.box{ρ:Nat->LV}{S:Nat->Prop}{w:aAf}{T:aAg}{l:List Slot}{cs:List aA4}(i:Nat)(hl:aL ρ S w l cs)(N4:(bX l).all (λj=> !Nat.beq j i)=true):y9 ρ S w (.ptr i 0) [(i,.box T l)] (.pointer (some ⟨w.heap.size,0,none⟩)) (w.alloc (.cells cs.toArray T)):=by
 refine wK (.pointer (some ⟨w.heap.size,0,none⟩)) (gO _ _) N4 ?_ ?_ ?_
 ·simp[E2,gC]
 ·intro u ρ' h ha;exact⟨⟨_,cs,rfl,heap_alloc_new _ _,eI l cs hl (Qr (gO _ _) h) ha⟩,λ_ h=>by grind⟩
 ·intro u ρ' _ hi _;exact⟨⟨_,hi⟩,by rw[hi];rfl⟩
section
variable {d:Option Tmp}{x y c:aAp}
theorem yV(P:aA5)(w:aAf)(T:aAg)(v:aA4):(newVar T v).run P w= .ok ⟨w.heap.size,0,none⟩ (w.alloc (.cells v.cells T)):=rfl
theorem Ge{α:Type}{e:Fu α}{z:α}{T:aAg}{l:List Slot}(i:Nat)(hx:aV O.g x=some (.v e z))(hl:X7 l e z)(N4:(bX l).all (λj=> !Nat.beq j i)=true):JO F ⟨d,.box T x,ty,p,af,gd⟩ O (.ptr i 0) [(i,.box T l)]:=by
 intro ρ S a w K;have h:=pV rfl (K.slot x (by simp[Op.operands]) _ hx);refine j6.value (w':=w.alloc (.cells (a.eval x).cells.toList.toArray T)) (v:= .pointer (some ⟨w.heap.size,0,none⟩)) (rfl) ?_;exact y9.box i ((hl ρ S w _).2 h) N4
theorem Gf{T:aAg}{l:List Slot}(i:Nat)(hx:aV O.g x=some (.agg l))(N4:(bX l).all (λj=> !Nat.beq j i)=true):JO F ⟨d,.box T x,ty,p,af,gd⟩ O (.ptr i 0) [(i,.box T l)]:=by
 intro ρ S a w K;have h:=K.slot x (by simp[Op.operands]) _ hx;obtain⟨cs,u,A⟩:=h;refine j6.value (w':=w.alloc (.cells cs.toArray T)) (v:= .pointer (some ⟨w.heap.size,0,none⟩)) (by simp[execOp,Instr.box,yV,u,Value.cells]) ?_
 grind [y9.box]
def Zr(cs:List aA4)(l:List Slot):Prop:=∀ρ S w,aL ρ S w l cs
theorem Zr.nil:Zr [] []:=λ_ _ _=>rfl
theorem Zr.cons{cs:List aA4}{l:List Slot}{α:Type}{e:Fu α}{z:α}{c:List aA4}(h:∀S w,e.ok z S w c)(k:Zr cs l):Zr (c++cs) (.v e z::l):=λρ S w=>⟨c,cs,rfl,by grind [Slot.I2],k ρ S w⟩
theorem Z.int(k:aA7):∀S w,(Fu.int k).ok 0 S w [.int k 0]:=λ_ _=>⟨rfl,by cases k<;>decide⟩
theorem Z.bool:∀S w,Fu.bool.ok false S w [.bool false]:=λ_ _=>rfl
theorem Z.sl{α:Type}(e:Fu α):∀S w,(Fu.sl e).ok [] S w [.slice none 0 0]:=λ_ _=>⟨none,0,rfl,by simp,.inl rfl⟩
theorem Z.err(T:aAg):∀S w,(Fu.err T).ok none S w [.nilIface]:=λ_ _=>rfl
theorem Z.arr{α:Type}{e:Fu α}{z:α}{c:List aA4}(m:Nat)(h:∀S w,e.ok z S w c):∀S w,(Fu.arr m e).ok (List.replicate m z) S w (List.replicate m c).flatten:=by
 intro S w;refine⟨by simp,?_⟩
 induction m with
 |zero=>simp[Fu.H8]
 |succ m u=>exact⟨c,_,rfl,h S w,u⟩
theorem Z.pr{α β:Type}{a:Fu α}{b:Fu β}{x:α}{y:β}{c d:List aA4}(h:∀S w,a.ok x S w c)(k:∀S w,b.ok y S w d):∀S w,(Fu.pr a b).ok (x,y) S w (c++d):=λS w=>⟨c,d,rfl,h S w,k S w⟩
theorem dV{T:aAg}{z:aA4}{cs:List aA4}{l:List Slot}(i:Nat)(hz:∀w,(zeroValue T).run F.P w= .ok z w)(hc:z.cells=cs.toArray)(hl:Zr cs l)(N4:(bX l).all (λj=> !Nat.beq j i)=true):JO F ⟨d,.alloc T,ty,p,af,gd⟩ O (.ptr i 0) [(i,.box T l)]:=by
 intro ρ S a w K;refine j6.value (w':=w.alloc (.cells cs.toArray T)) (v:= .pointer (some ⟨w.heap.size,0,none⟩)) (by simp_all [execOp,Instr.alloc,yV]) ?_;exact y9.box i (hl ρ S w) N4
theorem yF{xs:Array aAp}{ρ:Nat->LV}{S a w}(K:M4 O xs ρ S a w)(hm:x∈xs){i off:Nat}{T:aAg}{l:List Slot}(hx:aV O.g x=some (.ptr i off))(he:aF O.d i=some (.box T l pb)):∃b cs,(ρ i).v= .pointer (some ⟨b,0,none⟩)/\a.eval x= .pointer (some ⟨b,off,none⟩)/\w.heap[b]? =some (.cells cs.toArray T (0,0))/\aL ρ S w l cs:=by
 have h:=K.slot x hm _ hx;obtain⟨⟨b,u⟩,A⟩:=h;have:=(K.U4 x hm _ hx i (by simp[Slot.E1]) _ he).1;rw[u] at A;obtain⟨⟨B,cs,E,C,D⟩,_⟩:=this;have:B=b:=by grind
 subst this;exact⟨B,cs,u,A,C,D⟩
theorem gK{T U:aAg}{l:List Slot}{i off:Nat}(hx:aV O.g x=some (.ptr i off))(he:aF O.d i=some (.box T l pb))(ho:jJ l off=some s)(hA:∀w,(isAgg U).run F.P w= .ok s.ag w)(hS:∀w,(sizeOf U).run F.P w= .ok s.sz w):JO F ⟨d,.load U x,ty,p,af,gd⟩ O s []:=by
 intro ρ S a w K;obtain⟨b,cs,B,E,G,I⟩:=yF K (by simp[Op.operands]) hx he;obtain⟨C,c,L,rfl,rfl,D,_⟩:=uD ho I;have u:r8 w b C.length c:=by have:=(r8.of_heap G).sub;simpa using this
 have A:=mG D;refine j6.value (w':=w) ?_ (y9.same (AZ D));have:(loadVar U ⟨b,C.length,none⟩).run F.P w= .ok (if s.ag then .agg c.toArray else c.headD undef) w:=by
  unfold loadVar;simp only[Sem.run_bind,hA,Result.andThen_ok];cases ha:s.ag with
  |true=>
   simp only[K4,Sem.run_bind,hS,Result.andThen_ok];rw[<-A,run_loadCells_list w _ c u.cell];simp
  |false=>
   have B:c.length=1:=by
    rw[A];cases s<;>simp only[Slot.ag,Slot.sz] at ha ⊢;exact Fu.one _ ha
   obtain⟨v,rfl⟩:=aEk.1 B;have:=u.cell 0 v rfl;simp[Addr.add] at this;simp[this]
 simp[execOp,E,Instr.loadAt,Instr.sureAddr,this]
theorem uE{α:Type}{e:Fu α}{z:α}{T U:aAg}{l:List Slot}{i:Nat}(hx:aV O.g x=some (.ptr i 0))(he:aF O.d i=some (.box T l pb))(hl:X7 l e z)(hA:∀w,(isAgg U).run F.P w= .ok e.agg w)(hS:∀w,(sizeOf U).run F.P w= .ok e.n w):JO F ⟨d,.load U x,ty,p,af,gd⟩ O (.v e z) []:=by
 intro ρ S a w K;obtain⟨b,cs,D,A,B,C⟩:=yF K (by simp[Op.operands]) hx he;have u:=(hl ρ S w cs).1 C;refine j6.value (w':=w) ?_ (y9.same (⟨cs,u,rfl⟩));have:=Cu (r8.of_heap B) u hA hS;simp[execOp,A,Instr.loadAt,Instr.sureAddr,this]
theorem Ke{T U:aAg}{l:List Slot}{i n:Nat}(hx:aV O.g x=some (.ptr i 0))(he:aF O.d i=some (.box T l pb))(hn:(l.map Slot.sz).sum=n)(hA:∀w,(isAgg U).run F.P w= .ok true w)(hS:∀w,(sizeOf U).run F.P w= .ok n w):JO F ⟨d,.load U x,ty,p,af,gd⟩ O (.agg l) []:=by
 intro ρ S a w K;obtain⟨b,cs,I,C,A,u⟩:=yF K (by simp[Op.operands]) hx he;have B:cs.length=n:=by
  rw[<-hn];clear hn hS hx he A
  induction l generalizing cs with
  |nil=>simp only[aL] at u;simp[u]
  |cons t l G=>
   obtain⟨c,d,rfl,D,E⟩:=u;rw[cM,mG D,G d E];simp
 refine j6.value (w':=w) (v:= .agg cs.toArray) ?_ (y9.same (by simp only[Slot.ok];exact⟨cs,rfl,u⟩));have:(loadVar U ⟨b,0,none⟩).run F.P w= .ok (.agg cs.toArray) w:=by
  unfold loadVar;simp only[Sem.run_bind,hA,Result.andThen_ok,K4,hS];rw[<-B,run_loadCells_list w _ cs (r8.of_heap A).cell];simp
 simp[execOp,C,Instr.loadAt,Instr.sureAddr,this]
theorem rY{α:Type}{e:Fu α}{z:α}{U:aAg}(hx:aV O.g x=some (.B8 e z))(hA:∀w,(isAgg U).run F.P w= .ok e.agg w)(hS:∀w,(sizeOf U).run F.P w= .ok e.n w):JO F ⟨d,.load U x,ty,p,af,gd⟩ O (.v e z) []:=by
 intro ρ S a w K;have h:=K.slot x (by simp[Op.operands]) _ hx;obtain⟨b,D,A,B,_,_,C,u⟩:=h;refine j6.value ?_ (y9.same (⟨A,u,rfl⟩));have:=Cu C u hA hS;simp[execOp,B,Instr.loadAt,Instr.sureAddr,this]
theorem An{P:aA5}{w:aAf}{U:aAg}{fs:Array aA8}{n b off m:Nat}{fl:aA8}(hU:∀w,(underlying U).run P w= .ok (.struct fs) w)(hf:fs[n]? =some fl)(hm:∀w,(sizeOf fl.type).run P w= .ok m w)(G4:Nat.beq m 0=false):(Instr.fieldAt U (.pointer (some ⟨b,off,none⟩)) n).run P w= .ok (.pointer (some ⟨b,off+fl.offset,none⟩)) w:=by
 have u:m≠0:=λe=>by simp_all
 simp_all [Addr.add,Instr.fieldAt,Instr.sureAddr,fieldPlace]
theorem cB(o:Nat){U:aAg}{fs:Array aA8}{n i off m:Nat}{fl:aA8}(hx:aV O.g x=some (.ptr i off))(hU:∀w,(underlying U).run F.P w= .ok (.struct fs) w)(hf:fs[n]? =some fl)(hm:∀w,(sizeOf fl.type).run F.P w= .ok m w)(G4:Nat.beq m 0=false)(ho:Nat.beq (off+fl.offset) o=true):JO F ⟨d,.fieldAddr U x n,ty,p,af,gd⟩ O (.ptr i o) []:=by
 have ho:=gP ho;subst ho;intro ρ S a w K;have h:=K.slot x (by simp[Op.operands]) _ hx;simp only[Slot.ok] at h;obtain⟨⟨b,u⟩,A⟩:=h;rw[u] at A;refine j6.value (w':=w) (v:= .pointer (some ⟨b,off+fl.offset,none⟩)) ?_ (y9.same (by simp only[Slot.ok];exact⟨⟨b,u⟩,by rw[u];rfl⟩))
 simp_all [An,execOp,Al]
def Prj{α β:Type}(e:Fu α)(z:α)(off:Nat)(e':Fu β)(z':β):Prop:=∀S w cs,e.ok z S w cs->∃a c d,cs=a++(c++d)/\a.length=off/\e'.ok z' S w c
theorem Prj.here{α:Type}{e:Fu α}{z:α}:Prj e z 0 e z:=λ_ _ cs h=>⟨[],cs,[],by simp,rfl,h⟩
theorem Prj.fst{α β γ:Type}{a:Fu α}{b:Fu β}{e':Fu γ}{z:α×β}{z':γ}{off:Nat}(h:Prj a z.1 off e' z'):Prj (Fu.pr a b) z off e' z':=by
 rintro S w cs ⟨c,d,rfl,u,F⟩;obtain⟨A,B,C,rfl,D,E⟩:=h S w c u
 grind
theorem Prj.snd{α β γ:Type}{a:Fu α}{b:Fu β}{e':Fu γ}{z:α×β}{z':γ}{off:Nat}(h:Prj b z.2 off e' z'):Prj (Fu.pr a b) z (a.n+off) e' z':=by
 rintro S w cs ⟨c,d,rfl,E,F⟩;obtain⟨u,A,B,rfl,C,D⟩:=h S w d F;exact⟨c++u,A,B,by simp,by rw[cM,a.len E,C],D⟩
theorem Prj.ah{α γ:Type}{a:Fu α}{e':Fu γ}{z:α}{z':γ}{off:Nat}(h:Prj a z off e' z'):Prj (Fu.ah a) z off e' z':=h
theorem Tm{α β:Type}{e:Fu α}{z:α}{e':Fu β}{z':β}{U:aAg}{fs:Array aA8}{n m off:Nat}{fl:aA8}(hx:aV O.g x=some (.B8 e z))(hU:∀w,(underlying U).run F.P w= .ok (.struct fs) w)(hf:fs[n]? =some fl)(hm:∀w,(sizeOf fl.type).run F.P w= .ok m w)(G4:Nat.beq m 0=false)(hp:Prj e z off e' z')(aK0:off=fl.offset):JO F ⟨d,.fieldAddr U x n,ty,p,af,gd⟩ O (.B8 e' z') []:=by
 intro ρ S a w K;have h:=K.slot x (by simp[Op.operands]) _ hx;obtain⟨b,o,u,L,A,B,C,D⟩:=h;obtain⟨M,E,N,rfl,G,I⟩:=hp S w u D
 refine j6.value (w':=w) (v:= .pointer (some ⟨b,o+fl.offset,none⟩)) ?_ (y9.same (by
  simp only[Slot.ok];exact⟨b,_,E,rfl,A,B,by rw[<-aK0,<-G];exact C.sub,I⟩))
 simp_all [An,execOp]
def idx{α:Type}(xs:List α)(n:Int):Option α:=if 0<=n then xs[n.toNat]? else none
theorem iX{α:Type}{xs:List α}{n:Int}{y:α}(h:idx xs n=some y):0<=n/\n.toNat<xs.length/\xs[n.toNat]? =some y:=by
 grind [idx,Nat.lt_or_ge,List.getElem?_eq_none]
theorem Ao{P:aA5}{w:aAf}{U E:aAg}{m b off len cap:Nat}{k:aA7}{n:Int}(hU:∀w,(underlying U).run P w= .ok (.slice E) w)(hE:∀w,(sizeOf E).run P w= .ok m w)(h0:0<=n)(h1:n<len):(Instr.indexAt U (.slice (some ⟨b,off,none⟩) len cap) (.int k n)).run P w= .ok (.pointer (some ⟨b,off+n.toNat*m,none⟩)) w:=by
 simp_all [Addr.add,Instr.indexAt,asIntOf]
theorem Gg{α:Type}{e:Fu α}{xs:List α}{z:α}{U E:aAg}{k:aA7}{n:Int}(hz:Sw.idx xs n=some z)(hx:aV O.g x=some (.v (Fu.sl e) xs))(hy:aV O.g y=some (.v (Fu.int k) n))(hU:∀w,(underlying U).run F.P w= .ok (.slice E) w)(hE:∀w,(sizeOf E).run F.P w= .ok e.n w):JO F ⟨d,.indexAddr U x y,ty,p,af,gd⟩ O (.B8 e z) []:=by
 intro ρ S a w K;have h:=K.slot x (by simp[Op.operands]) _ hx;have Q:=(dC K (x:=y) (by simp[Op.operands]) hy).1;obtain⟨R,T,V,_,u⟩:=lY.1 h;obtain⟨X,A,B⟩:=iX hz;rcases u with u |⟨b,G,ds,rfl,I,L,M,N⟩
 ·subst u;simp at A
 obtain⟨ab,c,ac,rfl,C,D,_⟩:=nL N B;refine j6.value (w':=w) (v:= .pointer (some ⟨b,G+n.toNat*e.n,none⟩)) ?_ (y9.same (by simp only[Slot.ok];exact⟨b,_,c,rfl,I,L,by rw[<-C];exact M.sub,D⟩))
 simp_all [Ao,execOp]
theorem yW{n:Nat}(h:n<=9223372036854775807):zY .i64 (n:Int):=by grind [zY,IntKind.min,IntKind.max,IntKind.signed,IntKind.bits]
theorem Du{P:aA5}{w:aAf}{U E:aAg}{a:Option aBc}{n cap:Nat}{tt:aAg}(hU:∀w,(underlying U).run P w= .ok (.slice E) w):(Builtin.len_ #[U] tt #[.slice a n cap]).run P w= .ok (.int .i64 n) w:=by
 simp[Builtin.len_,hU,goInt]
theorem vG{α:Type}{e:Fu α}{xs:List α}{U E:aAg}(hx:aV O.g x=some (.v (Fu.sl e) xs))(hU:∀w,(underlying U).run F.P w= .ok (.slice E) w):JO F ⟨d,.call ⟨.builtin .len,#[x],#[U]⟩,ty,p,af,gd⟩ O (.v (Fu.int .i64) xs.length) []:=by
 intro ρ S a w K;have h:=K.slot x (by simp[Op.operands,Call.operands]) _ hx;obtain⟨u,A,B,C,_⟩:=lY.1 h;refine j6.value ?_ (y9.same (pE (yW (by grind)) ρ S w))
 simp_all [execOp,resolve,invoke,builtin,Du]
theorem xF{xs:Array aAp}{ρ:Nat->LV}{S a w}(K:M4 O xs ρ S a w)(hm:x∈xs){i:Nat}{en:j2}(hx:aV O.g x=some (.ref i))(he:aF O.d i=some en):a.eval x=(ρ i).v/\en.ok ρ S w (ρ i)/\∀b,mS (ρ i) b->S b/\b<w.heap.size:=by
 have h:=K.slot x hm _ hx;exact⟨h.2,K.U4 x hm _ hx i (by simp[Slot.E1]) _ he⟩
theorem BA{α:Type}{e:Fu α}{xs:List α}{T U E:aAg}{i:Nat}(hx:aV O.g x=some (.ref i))(he:aF O.d i=some (.arr T e xs))(hU:∀w,(underlying U).run F.P w= .ok (.slice E) w):JO F ⟨d,.call ⟨.builtin .len,#[x],#[U]⟩,ty,p,af,gd⟩ O (.v (Fu.int .i64) xs.length) []:=by
 intro ρ S a w K;obtain⟨A,u,_⟩:=xF K (x:=x) (by simp[Op.operands,Call.operands]) hx he;rcases u with⟨rfl,u⟩|⟨b,B,C,cs,D,u,_,_,_,_,G⟩
 ·refine j6.value (w':=w) (v:= .int .i64 0) ?_ (y9.same (pE (yW (n:=0) (by simp)) ρ S w));simp[execOp,resolve,invoke,builtin,A,u,Du hU]
 ·refine j6.value (w':=w) ?_ (y9.same (pE (yW (by omega)) ρ S w));simp[execOp,resolve,invoke,builtin,A,u,Du hU]
theorem Gh{b:List Int}{U:aAg}(hx:aV O.g x=some (.v Fu.str b))(hU:∀w,(underlying U).run F.P w= .ok .string w):JO F ⟨d,.call ⟨.builtin .len,#[x],#[U]⟩,ty,p,af,gd⟩ O (.v (Fu.int .i64) b.length) []:=by
 intro ρ S a w K;have h:=K.slot x (by simp[Op.operands,Call.operands]) _ hx;obtain⟨u,_,A⟩:=tD.1 h;refine j6.value ?_ (y9.same (pE (yW A) ρ S w));simp[execOp,resolve,invoke,builtin,u,Builtin.len_,hU,goInt,gN]
end
mutual
def Slot.map(r:Nat->Nat):Slot->Slot | .v e x=> .v e x | .ref i=> .ref (r i) | .ptr i off=> .ptr (r i) off | .wi i off k n=> .wi (r i) off k n | .el i k n off=> .el (r i) k n off | .T9 i off lo n cap=> .T9 (r i) off lo n cap | .esl i off n cap=> .esl (r i) off n cap | .sub i off n=> .sub (r i) off n | .B8 e x=> .B8 e x | .G0 g cap=> .G0 g (dB r cap) | .top=> .top | .agg l=> .agg (dB r l) | .q9 l=> .q9 (dB r l)
def dB(r:Nat->Nat):List Slot->List Slot | []=>[] | s::l=>s.map r::dB r l
end
def j2.map(r:Nat->Nat):j2->j2 | .box T l pb=> .box T (dB r l) pb | .arr T e xs=> .arr T e xs | .mp e f m=> .mp e f m | .dp D x ls=> .dp D x (ls.map r)
section
variable {ρ:Nat->LV}{S:Nat->Prop}{w:aAf}{r:Nat->Nat}
mutual
theorem BB:∀(s:Slot) (cs:List aA4),(s.map r).I2 ρ S w cs↔s.I2 (λi=>ρ (r i)) S w cs
 | .v e x,cs=>by simp only[Slot.map,Slot.I2]
 | .ref i,cs=>by simp only[Slot.map,Slot.I2]
 | .ptr i off,cs=>by simp only[Slot.map,Slot.I2]
 | .wi i off k n,cs=>by simp only[Slot.map,Slot.I2]
 | .el i k n off,cs=>by simp only[Slot.map,Slot.I2]
 | .T9 i off u n cap,cs=>by simp only[Slot.map,Slot.I2]
 | .esl i off n cap,cs=>by simp only[Slot.map,Slot.I2]
 | .sub i off n,cs=>by simp only[Slot.map,Slot.I2]
 | .B8 e x,cs=>by simp only[Slot.map,Slot.I2]
 | .G0 g cap,cs=>by simp only[Slot.map,Slot.I2,Jb cap]
 | .top,cs=>by simp only[Slot.map,Slot.I2]
 | .agg l,cs=>by simp only[Slot.map,Slot.I2]
 | .q9 l,cs=>by simp only[Slot.map,Slot.I2]
theorem Jb:∀(l:List Slot) (vs:List aA4),aG ρ S w (dB r l) vs↔aG (λi=>ρ (r i)) S w l vs
 | [],vs=>by simp only[dB,aG]
 |s::l,vs=>by simp only[dB,aG,Kf s,Jb l]
theorem Qs:∀(l:List Slot) (vs:List aA4),aL ρ S w (dB r l) vs↔aL (λi=>ρ (r i)) S w l vs
 | [],vs=>by simp only[dB,aL]
 |s::l,vs=>by simp only[dB,aL,BB s,Qs l]
theorem Kf:∀(s:Slot) (u:aA4),(s.map r).ok ρ S w u↔s.ok (λi=>ρ (r i)) S w u
 | .v e x,cs=>by simp only[Slot.map,Slot.ok]
 | .ref i,cs=>by simp only[Slot.map,Slot.ok]
 | .ptr i off,cs=>by simp only[Slot.map,Slot.ok]
 | .wi i off k n,cs=>by simp only[Slot.map,Slot.ok]
 | .el i k n off,cs=>by simp only[Slot.map,Slot.ok]
 | .T9 i off A n cap,cs=>by simp only[Slot.map,Slot.ok]
 | .esl i off n cap,cs=>by simp only[Slot.map,Slot.ok]
 | .sub i off n,cs=>by simp only[Slot.map,Slot.ok]
 | .B8 e x,cs=>by simp only[Slot.map,Slot.ok]
 | .G0 g cap,cs=>by simp only[Slot.map,Slot.ok,Jb cap]
 | .top,cs=>by simp only[Slot.map,Slot.ok]
 | .agg l,cs=>by simp only[Slot.map,Slot.ok,Qs l]
 | .q9 l,cs=>by simp only[Slot.map,Slot.ok,Jb l]
end
theorem Dv(en:j2)(u:LV):(en.map r).ok ρ S w u↔en.ok (λi=>ρ (r i)) S w u:=by
 cases en<;>simp[j2.map,j2.ok,Qs,aHh,Function.comp_def]
end
def Gi(r:Nat->Nat):List (Nat×j2)->List (Nat×j2) | []=>[] | (i,en)::l=>(r i,en.map r)::Gi r l
theorem wC(k:Nat):∀(l:List (Nat×j2)) (j:Nat) (en:j2),aF (Gi (·+k) l) j=some en->∃i en',j=i+k/\aF l i=some en'/\en=en'.map (·+k)
 | [],j,en,h=>by simp[Gi,aF] at h
 | (i,en')::l,j,en,h=>by
  simp only[Gi,aF] at h;cases hb:Nat.beq (i+k) j with
  |true=>
   have:=gP hb;rw[hb] at h;simp at h;exact⟨i,en',this.symm,by simp[aF],h.symm⟩
  |false=>
   rw[hb] at h;obtain⟨u,A,B,C,D⟩:=wC k l j en (by simpa using h);refine⟨u,A,B,?_,D⟩;have:Nat.beq i u=false:=by
    cases hc:Nat.beq i u<;>simp_all
   simp only[aF,this];exact C
theorem wL(k:Nat):∀(l:List (Nat×j2)) (i:Nat) (en:j2),aF l i=some en->aF (Gi (·+k) l) (i+k)=some (en.map (·+k))
 | [],i,en,h=>by simp[aF] at h
 | (u,en')::l,i,en,h=>by
  simp only[aF] at h;simp only[Gi,aF];cases hb:Nat.beq u i with
  |true=>
   simp_all
  |false=>
   rw[hb] at h;have A:u≠i:=λe=>by simp_all
   have:Nat.beq (u+k) (i+k)=false:=by
    grind [Nat.beq,Nat.eq_of_beq_eq_true]
   rw[this];exact wL k l i en (by simpa using h)
theorem y9.shift{ρ:Nat->LV}{S:Nat->Prop}{w w':aAf}{res:Slot}{new:List (Nat×j2)}{v:aA4}(k:Nat)(D6:gH res new=true)(h:y9 ρ S w res new v w'):y9 ρ S w (res.map (·+k)) (Gi (·+k) new) v w':=by
 obtain⟨ρ',h1,Q,R,K⟩:=h;simp only[gH,bm,nE] at D6;let F:Nat->LV:=λj=>if k<=j/\(aF new (j - k)).isSome=true then ρ' (j - k) else ρ j
 have D:∀i,(aF new i).isSome=true->F (i+k)=ρ' i:=λi u=>by simp[F,u]
 have N:∀b,Un S F (Gi (·+k) new) b↔Un S ρ' new b:=by
  intro b;constructor
  ·rintro (h |⟨j,B,C,A⟩)
   ·exact .inl h
   ·obtain⟨i,E,rfl,u,_⟩:=wC k new j B C;rw[D i (by rw[u];rfl)] at A;exact .inr ⟨i,E,u,A⟩
  ·rintro (h |⟨i,B,u,A⟩)
   ·exact .inl h
   ·exact .inr ⟨i+k,_,wL k new i B u,by rw[D i (by rw[u];rfl)];exact A⟩
 have L:Ext (Un S ρ' new) (Un S F (Gi (·+k) new)) w' w':=⟨gC _,λb _ A=>⟨rfl,λh=>A ((N b).1 h)⟩⟩;refine⟨F,λj C=>?_,Q,?_,⟨λj B C=>?_,λj B b C A=>?_,λj O B E b C P A M=>?_⟩⟩
 ·have:¬(k<=j/\(aF new (j - k)).isSome=true):=by
   rintro⟨V,X⟩;obtain⟨B,T⟩:=Option.isSome_iff_exists.1 X;have:=wL k new (j - k) B T;rw[Nat.sub_add_cancel V,C] at this;cases this
  simp only[F,nS this]
 ·rw[Kf];exact Slot.j5 res v R L (λi u=>congrArg LV.v (D i (D6.1 i u)))
 ·obtain⟨i,E,rfl,u,rfl⟩:=wC k new j B C;rw[Dv,D i (by rw[u];rfl)];exact j2.j5 (K.own i E u) L (λG I=>congrArg LV.v (D G (D6.2 _ (lH u) G I))) (λ_ _=>rfl)
 ·obtain⟨i,E,rfl,u,rfl⟩:=wC k new j B C;rw[D i (by rw[u];rfl)] at A;exact K.fresh i E b u A
 ·obtain⟨i,e,rfl,u,rfl⟩:=wC k new j B C;obtain⟨G,U,rfl,I,rfl⟩:=wC k new O E P;rw[D i (by rw[u];rfl)] at A;rw[D G (by rw[I];rfl)] at M;rw[K.inj i G e U b u I A M]
def Frz{α β:Type}(D:DE α)(x:α)(e:Fu β)(z:β):Prop:=∀S S' w u,D.ok x S w u []->Ext S S' w w->(∀b,mS u b->¬S' b)->e.ok z S' w [u.v]/\e.pk [u.v]=u.v
def aBk(en en':j2):Prop:=en'.E1=[]/\∀ρ S w u,en.ok ρ S w u->en'.ok ρ S w u
mutual
inductive ki (O:AS) (r:Nat->Nat) (ls:List Nat):Slot->Slot->Prop
 |same {s:Slot}:ki O r ls (s.map r) s
 |oh {α:Type} {j:Nat} {T:aAg} {e:Fu α} {xs:List α}:aF O.d j=some (.arr T e xs)->ls.all (λi=> !Nat.beq (r i) j)=true->ki O r ls (.ref j) (.v (Fu.sl e) xs)
 |agg {l l':List Slot}:kj O r ls l l'->ki O r ls (.agg l) (.agg l')
 |pack {α:Type} {l l':List Slot} {e:Fu α} {z:α}:kj O r ls l l'->X7 l' e z->e.agg=true->ki O r ls (.agg l) (.v e z)
 |fx {α:Type} {j:Nat} {T:aAg} {l l':List Slot} {pb:Option Nat} {e:Fu α} {z:α}:aF O.d j=some (.box T l pb)->ls.all (λi=> !Nat.beq (r i) j)=true->kj O r ls l l'->X7 l' e z->ki O r ls (.ptr j 0) (.B8 e z)
 | G0 {g:Nat} {l l':List Slot}:kj O r ls l l'->ki O r ls (.G0 g l) (.G0 g l')
 |aWn {α β:Type} {j:Nat} {D:DE α} {x:α} {e:Fu β} {z:β}:aF O.d j=some (.dp D x [])->ls.all (λi=> !Nat.beq (r i) j)=true->Frz D x e z->ki O r ls (.ref j) (.v e z)
 |enc {α β:Type} {e:Fu α} {f:Fu β} {x:α} {y:β}:(∀S w cs,e.ok x S w cs->f.ok y S w cs)->(∀cs,e.pk cs=f.pk cs)->ki O r ls (.v e x) (.v f y)
inductive kj (O:AS) (r:Nat->Nat) (ls:List Nat):List Slot->List Slot->Prop
 |nil:kj O r ls [] []
 |cons {s s':Slot} {l l':List Slot}:ki O r ls s s'->kj O r ls l l'->kj O r ls (s::l) (s'::l')
end
inductive ou (O:AS) (r:Nat->Nat) (ls:List Nat):List (Nat×Slot)->Prop
 |nil:ou O r ls []
 |cons {t:Nat} {s s':Slot} {g:List (Nat×Slot)}:lk O.g t=some s->ki O r ls s s'->ou O r ls g->ou O r ls ((t,s')::g)
inductive Z2 (O:AS) (r:Nat->Nat) (ls:List Nat):List (Nat×j2)->Prop
 |nil:Z2 O r ls []
 |box {i:Nat} {T:aAg} {l l':List Slot} {pb:Option Nat} {d:List (Nat×j2)}:aF O.d (r i)=some (.box T l pb)->kj O r ls l l'->Z2 O r ls d->Z2 O r ls ((i,.box T l' pb)::d)
 |aWu {i:Nat} {T:aAg} {l l':List Slot} {pb:Option Nat} {d:List (Nat×j2)}:aF O.d (r i)=some (.box T l pb)->kj O r ls l l'->Z2 O r ls d->Z2 O r ls ((i,.box T l' none)::d)
 |arr {α:Type} {i:Nat} {T:aAg} {e:Fu α} {xs:List α} {d:List (Nat×j2)}:aF O.d (r i)=some (.arr T e xs)->Z2 O r ls d->Z2 O r ls ((i,.arr T e xs)::d)
 |mp {α β:Type} {i:Nat} {e:Fu α} {f:Fu β} {m:List (α×β)} {d:List (Nat×j2)}:aF O.d (r i)=some (.mp e f m)->Z2 O r ls d->Z2 O r ls ((i,.mp e f m)::d)
 |dp {α:Type} {i:Nat} {D:DE α} {x:α} {l:List Nat} {d:List (Nat×j2)}:aF O.d (r i)=some (.dp D x (l.map r))->Z2 O r ls d->Z2 O r ls ((i,.dp D x l)::d)
 |cv {i:Nat} {en en':j2} {d:List (Nat×j2)}:aF O.d (r i)=some en->aBk en en'->Z2 O r ls d->Z2 O r ls ((i,en')::d)
def Ng(r:Nat->Nat):List Nat->Bool | []=>true | i::l=>l.all (λj=> !Nat.beq (r j) (r i)) && Ng r l
theorem Nx{r:Nat->Nat}:∀{l:List Nat},Ng r l=true->∀i∈l,∀j∈l,r i=r j->i=j
 | [],_,i,A,_,_,_=>by simp at A
 |x::l,h,i,A,j,E,G=>by
  simp only[Ng,bm,nE] at h;obtain⟨B,F⟩:=h;rcases sK.1 A with e | C
  ·rcases sK.1 E with D | u
   ·rw[e,D]
   ·have:=B j u;simp_all
  ·rcases sK.1 E with D | u
   ·have:=B i C;simp_all
   ·exact Nx F i C j u G
section
variable {r:Nat->Nat}{ls:List Nat}{ρ:Nat->LV}{w:aAf}
theorem Qt{α:Type}{e:Fu α}{xs:List α}{T:aAg}{ρ S S' w u}(h:(j2.arr T e xs).ok ρ S w u)(hE:Ext S S' w w)(hb:∀b,mS u b->¬S' b):(Fu.sl e).ok xs S' w [u.v]:=by
 rcases h with⟨rfl,A⟩|⟨b,B,F,cs,G,A,C,D,E,I,K⟩<;>rw[A]
 ·exact⟨none,0,rfl,by simp,.inl rfl⟩
 ·refine⟨_,B,rfl,⟨E,by omega⟩,.inr ⟨b,_,cs,rfl,?_,hb b (.inl (by rw[A];rfl)),?_,Fu.q8 D hE⟩⟩
  ·grind
  ·have:=(r8.of_heap C).sub;grind
mutual
theorem ki.spec(hc:Core F O.d ρ w)(hE:Ext (Un F.S0 ρ O.d) (Un F.S0 (λi=>ρ (r i)) d') w w)(hn:∀j en,aF O.d j=some en->ls.all (λi=> !Nat.beq (r i) j)=true->∀b,mS (ρ j) b->¬Un F.S0 (λi=>ρ (r i)) d' b):
  ∀{s s':Slot},ki O r ls s s'->(∀u,s.ok ρ (Un F.S0 ρ O.d) w u->s'.ok (λi=>ρ (r i)) (Un F.S0 (λi=>ρ (r i)) d') w u)/\
   (∀cs,s.I2 ρ (Un F.S0 ρ O.d) w cs->s'.I2 (λi=>ρ (r i)) (Un F.S0 (λi=>ρ (r i)) d') w cs)
 |_,s',.same=>⟨λu h=>Slot.j5 s' u ((Kf s' u).1 h) hE (λ_ _=>rfl),λcs h=>uR s' cs ((BB s' cs).1 h) hE (λ_ _=>rfl)⟩
 |_,_,.oh (j:=j) A B=>by
  have D:=Qt (hc.own j _ A) hE (hn j _ A B);refine⟨λu h=>?_,λcs h=>?_⟩
  ·simp only[Slot.ok] at h ⊢;rw[h.2];exact⟨_,D,rfl⟩
  ·simp only[Slot.I2] at h ⊢;rw[h.2];exact D
 |_,_,.agg C=>by
  refine⟨λu h=>?_,λcs h=>by simp[Slot.I2] at h⟩;simp only[Slot.ok] at h ⊢;obtain⟨cs,A,B⟩:=h;exact⟨cs,A,(kj.spec hc hE hn C).1 cs B⟩
 |_,_,.pack C K R=>by
  refine⟨λu h=>?_,λcs h=>by simp[Slot.I2] at h⟩;simp only[Slot.ok] at h ⊢;obtain⟨cs,A,B⟩:=h;exact⟨cs,(K _ _ _ cs).1 ((kj.spec hc hE hn C).1 cs B),by rw[A];simp[Fu.pk,R]⟩
 |_,_,.fx (j:=j) A B C K=>by
  obtain⟨⟨b,cs,E,G,Q⟩,_⟩:=hc.own j _ A;have L:=hn j _ A B b (.inl (by rw[E];rfl));have M:=(K _ _ _ cs).1 ((kj.spec hc hE hn C).1 cs Q);have N:b<w.heap.size:=(aDl.1 G).1;refine⟨λu h=>?_,λS h=>?_⟩
  ·simp only[Slot.ok] at h ⊢;refine⟨b,0,cs,?_,N,L,r8.of_heap G,M⟩;rw[h.2,E];rfl
  ·simp only[Slot.I2] at h ⊢;refine⟨b,0,cs,?_,N,L,r8.of_heap G,M⟩;rw[h.2,E];rfl
 |_,_,.G0 C=>by
  refine⟨λu h=>?_,λcs h=>?_⟩
  ·simp only[Slot.ok] at h ⊢;obtain⟨vs,A,B⟩:=h;exact⟨vs,A,(kj.spec hc hE hn C).2 vs B⟩
  ·simp only[Slot.I2] at h ⊢;obtain⟨vs,A,B⟩:=h;exact⟨vs,A,(kj.spec hc hE hn C).2 vs B⟩
 |_,_,.aWn (j:=j) A B hf=>by
  obtain⟨D,I⟩:=hf _ _ _ _ (hc.own j _ A) hE (hn j _ A B);refine⟨λu h=>?_,λcs h=>?_⟩
  ·simp only[Slot.ok] at h ⊢;rw[h.2];exact⟨_,D,I.symm⟩
  ·simp only[Slot.I2] at h ⊢;rw[h.2];exact D
 |_,_,.enc (f:=f) h I=>by
  refine⟨λu P=>?_,λcs hc=>?_⟩
  ·simp only[Slot.ok] at P ⊢;obtain⟨cs,A,B⟩:=P;exact fN ⟨cs,h _ _ _ A,by rw[B,I]⟩ hE
  ·simp only[Slot.I2] at hc ⊢;exact f.mono (h _ _ _ hc) hE
theorem kj.spec(hc:Core F O.d ρ w)(hE:Ext (Un F.S0 ρ O.d) (Un F.S0 (λi=>ρ (r i)) d') w w)(hn:∀j en,aF O.d j=some en->ls.all (λi=> !Nat.beq (r i) j)=true->∀b,mS (ρ j) b->¬Un F.S0 (λi=>ρ (r i)) d' b):
  ∀{l l':List Slot},kj O r ls l l'->(∀cs,aL ρ (Un F.S0 ρ O.d) w l cs->aL (λi=>ρ (r i)) (Un F.S0 (λi=>ρ (r i)) d') w l' cs)/\(∀vs,aG ρ (Un F.S0 ρ O.d) w l vs->aG (λi=>ρ (r i)) (Un F.S0 (λi=>ρ (r i)) d') w l' vs)
 |_,_,.nil=>⟨λcs h=>h,λvs h=>h⟩
 |_,_,.cons E G=>⟨λcs h=>by
  simp only[aL] at h ⊢;obtain⟨c,d,A,B,C⟩:=h;exact⟨c,d,A,(ki.spec hc hE hn E).2 c B,(kj.spec hc hE hn G).1 d C⟩,λvs h=>by
  simp only[aG] at h ⊢;obtain⟨u,D,A,B,C⟩:=h
  exact⟨u,D,A,(ki.spec hc hE hn E).1 u B,(kj.spec hc hE hn G).2 D C⟩⟩
end
theorem ou.spec{g:List (Nat×Slot)}(h:ou O r ls g):∀t s',lk g t=some s'->∃s,lk O.g t=some s/\ki O r ls s s':=by
 induction h<;>grind [lk,Nat.beq,Nat.eq_of_beq_eq_true]
theorem Z2.spec{d:List (Nat×j2)}(h:Z2 O r ls d):∀i en',aF d i=some en'->(∃T l l' pb pb',aF O.d (r i)=some (.box T l pb)/\en'= .box T l' pb'/\(∀c,pb'=some c->pb=some c)/\kj O r ls l l')\/∃en,aF O.d (r i)=some en/\∀ρ S S' w u,en.ok ρ S w u->Ext S S' w w->en'.ok (λi=>ρ (r i)) S' w u:=by
 induction h with
 |nil=>intro t s h;simp[aF] at h
 |box B I _ C=>
  rename_i A T l l' pb G _;intro t s h;simp only[aF] at h;cases hb:Nat.beq A t with
  |true=>have:=gP hb;subst this;rw[hb] at h;simp at h;subst h;exact .inl ⟨T,l,l',pb,pb,B,rfl,λ_ h=>h,I⟩
  |false=>rw[hb] at h;exact C t s h
 |aWu B I _ C=>
  rename_i A T l l' pb G _;intro t s h;simp only[aF] at h;cases hb:Nat.beq A t with
  |true=>have:=gP hb;subst this;rw[hb] at h;simp at h;subst h;exact .inl ⟨T,l,l',pb,none,B,rfl,(λ_ h=>(by cases h)),I⟩
  |false=>rw[hb] at h;exact C t s h
 |arr B _ C=>
  rename_i α A T e xs G _;intro t s h;simp only[aF] at h;cases hb:Nat.beq A t with
  |true=>
   have:=gP hb;subst this;rw[hb] at h;simp at h;subst h;exact .inr ⟨_,B,λρ S S' w u h E=>j2.j5 h E (λ_ F=>by simp[j2.E1] at F) (λ_ _=>rfl)⟩
  |false=>rw[hb] at h;exact C t s h
 |mp B _ C=>
  rename_i α β A e f m G _;intro t s h;simp only[aF] at h;cases hb:Nat.beq A t with
  |true=>
   have:=gP hb;subst this;rw[hb] at h;simp at h;subst h;exact .inr ⟨_,B,λρ S S' w u h E=>j2.j5 h E (λ_ F=>by simp[j2.E1] at F) (λ_ _=>rfl)⟩
  |false=>rw[hb] at h;exact C t s h
 |dp B _ C=>
  rename_i α A D x l G _;intro t s h;simp only[aF] at h;cases hb:Nat.beq A t with
  |true=>
   have:=gP hb;subst this;rw[hb] at h;simp at h;subst h;refine .inr ⟨_,B,λρ S S' w u h E=>?_⟩;have:=D.mono h E (λ_ _=>rfl);simp only[j2.ok,aHh,Function.comp_def] at this ⊢;exact this
  |false=>rw[hb] at h;exact C t s h
 |cv B K _ C=>
  rename_i A en en' G _;intro t s h;simp only[aF] at h;cases hb:Nat.beq A t with
  |true=>
   have:=gP hb;subst this;rw[hb] at h;simp at h;subst h;exact .inr ⟨_,B,λρ S S' w u h E=>j2.j5 (K.2 _ _ _ _ h) E (λ_ F=>by rw[K.1] at F;simp at F) (λ_ _=>rfl)⟩
  |false=>rw[hb] at h;exact C t s h
theorem Sub.mk{O':AS}(r:Nat->Nat)(hg:ou O r (O'.d.map (·.1)) O'.g)(hd:Z2 O r (O'.d.map (·.1)) O'.d)(hi:Ng r (O'.d.map (·.1))=true):Sub F O O':=by
 rintro a w ⟨⟨ρ,A,hs⟩,hz,G6⟩;have N:=hd.spec;have G:∀i u,aF O'.d i=some u->∃E8,aF O.d (r i)=some E8:=λi u h=>by
  rcases N i u h with⟨T,l,l',pb,_,B,_⟩|⟨_,B,_⟩
  ·exact⟨_,B⟩
  ·exact⟨_,B⟩
 have K:∀i u,aF O'.d i=some u->i∈O'.d.map (·.1):=λi u h=>ot.2 ⟨_,lH h,rfl⟩;have S:∀b,Un F.S0 (λi=>ρ (r i)) O'.d b->Un F.S0 ρ O.d b:=by
  rintro b (h |⟨i,u,B,E⟩)
  ·exact .inl h
  ·obtain⟨E8,D⟩:=G i u B;exact .inr ⟨r i,E8,D,E⟩
 have L:Ext (Un F.S0 ρ O.d) (Un F.S0 (λi=>ρ (r i)) O'.d) w w:=⟨gC _,λb _ C=>⟨rfl,λh=>C (S b h)⟩⟩;have P:∀j u,aF O.d j=some u->(O'.d.map (·.1)).all (λi=> !Nat.beq (r i) j)=true->∀b,mS (ρ j) b->¬Un F.S0 (λi=>ρ (r i)) O'.d b:=by
  intro j u M U b C V;rcases V with h |⟨i,I,B,E⟩
  ·have B:=(A.fresh j u b M C).1;exact absurd h (A.apart j u b M C)
  ·obtain⟨E8,D⟩:=G i I B;have:=A.inj j (r i) u E8 b M D C E;have Q:=nE.1 U i (K i I B);rw[this] at Q;simp at Q
 refine⟨⟨λi=>ρ (r i),⟨A.low,A.size,A.frame,A.os,A.tape,A.output,?_,?_,?_,?_⟩,?_⟩,hz,G6⟩
 ·intro i u h;rcases N i u h with⟨T,l,l',pb,ab,B,rfl,h0,E⟩|⟨E8,B,E⟩
  ·obtain⟨⟨b,cs,k1,k2,k3⟩,k4⟩:=A.own _ _ B;exact⟨⟨b,cs,k1,k2,(kj.spec A L P E).1 cs k3⟩,λc lj=>k4 c (h0 c lj)⟩
  ·exact E _ _ _ _ _ (A.own _ _ B) L
 ·intro i u b h C;obtain⟨E8,D⟩:=G i u h;exact A.fresh (r i) E8 b D C
 ·intro i j u I b h R C X;obtain⟨E8,D⟩:=G i u h;obtain⟨vc,h4⟩:=G j I R;exact Nx hi i (K i u h) j (K j I R) (A.inj _ _ _ _ b D h4 C X)
 ·intro i u b h C;obtain⟨E8,D⟩:=G i u h;exact A.apart (r i) E8 b D C
 ·intro t s' ht;obtain⟨s,B,E⟩:=hg.spec t s' ht;exact(ki.spec A L P E).1 _ (hs t s B)
end
section
variable {d:Option Tmp}
def Arg(O:AS)(F8:Bool)(x:aAp)(s:Slot):Prop:=∀ρ S a w,M4 O #[x] ρ S a w->s.ok ρ (if F8 then λ_=>False else S) w (a.eval x)
theorem yG(S:Nat->Prop)(w:aAf)(b:Bool):Ext S (if b then λ_=>False else S) w w:=by
 cases b
 ·simp[Ext.refl]
 ·exact⟨gC _,λ_ _ _=>⟨rfl,λh=>h⟩⟩
theorem Arg.dir{F8:Bool}{x:aAp}{s:Slot}(h:aV O.g x=some s):Arg O F8 x s:=λρ S a w K=>
 Slot.j5 s _ (K.slot x (by simp) s h) (yG S w F8) (λ_ _=>rfl)
theorem Arg.wj{F8:Bool}{α:Type}(e:Fu α):Arg O F8 (.const (.slice none 0 0)) (.v (Fu.sl e) []):=λρ _ _ w _=>Th e ρ _ w
theorem Arg.aKs{F8:Bool}(T:aAg):Arg O F8 (.const .nilIface) (.v (Fu.err T) none):=λρ _ _ w _=>Nv T ρ _ w
theorem Arg.ref{α:Type}{x:aAp}{i:Nat}{T:aAg}{e:Fu α}{xs:List α}(h:aV O.g x=some (.ref i))(he:aF O.d i=some (.arr T e xs)):Arg O true x (.v (Fu.sl e) xs):=by
 intro ρ S a w K;obtain⟨u,A,_⟩:=xF K (by simp) h he;rw[u];exact⟨_,Qt A (yG S w true) (λ_ _ h=>h),rfl⟩
inductive pd (O:AS) (F8:Bool):List Slot->List Slot->Prop
 |nil:pd O F8 [] []
 |same {s:Slot} {l l':List Slot}:pd O F8 l l'->pd O F8 (s::l) (s::l')
 |ref {α:Type} {i:Nat} {T:aAg} {e:Fu α} {xs:List α} {l l':List Slot}:F8=true->aF O.d i=some (.arr T e xs)->pd O F8 l l'->pd O F8 (.ref i::l) (.v (Fu.sl e) xs::l')
theorem pd.spec{F8:Bool}{l l':List Slot}(h:pd O F8 l l'){ρ S w}(aNv:∀i∈bX l,∀en,aF O.d i=some en->en.ok ρ S w (ρ i)):∀cs,aL ρ S w l cs->aL ρ (if F8 then λ_=>False else S) w l' cs:=by
 induction h with
 |nil=>intro cs h;exact h
 |same _ D=>
  rename_i s l l' _;intro cs h;simp only[aL] at h ⊢;obtain⟨c,d,A,B,C⟩:=h;exact⟨c,d,A,uR s c B (yG S w F8) (λ_ _=>rfl),D (λi u=>aNv i (by simp[bX,u])) d C⟩
 |ref E F _ D=>
  rename_i α i T e xs l l' _;intro cs h;simp only[aL,Slot.I2] at h ⊢;obtain⟨c,d,A,B,C⟩:=h;refine⟨c,d,A,?_,D (λi u=>aNv i (by simp[bX,u])) d C⟩;rw[B.2];subst E;exact Qt (aNv i (by simp[bX,Slot.E1]) _ F) (yG S w true) (λ_ _ h=>h)
theorem Arg.agg{F8:Bool}{α:Type}{x:aAp}{l l':List Slot}{e:Fu α}{z:α}(h:aV O.g x=some (.agg l))(hl:pd O F8 l l')(hs:X7 l' e z)(ha:e.agg=true):Arg O F8 x (.v e z):=by
 intro ρ S a w K;have u:=K.slot x (by simp) _ h;obtain⟨cs,E,C⟩:=u;refine⟨cs,(hs _ _ _ cs).1 (hl.spec (λi D A B=>(K.U4 x (by simp) _ h i (by grind [Slot.E1]) A B).1) cs C),?_⟩
 grind [Fu.pk]
inductive W7 (O:AS) (F8:Bool):List aAp->List Slot->Prop
 |nil:W7 O F8 [] []
 |cons {x:aAp} {s:Slot} {xs:List aAp} {l:List Slot}:Arg O F8 x s->W7 O F8 xs l->W7 O F8 (x::xs) (s::l)
theorem W7.spec{F8:Bool}{xs:List aAp}{l:List Slot}(h:W7 O F8 xs l){ρ S a w}{ys:Array aAp}(zm:∀x∈xs,x∈ys)(K:M4 O ys ρ S a w):aG ρ (if F8 then λ_=>False else S) w l (xs.map a.eval):=by
 induction h with
 |nil=>rfl
 |cons A _ B=>
  rename_i x s xs l _;refine⟨_,_,rfl,A ρ S a w ⟨K.low,λy u s h=>?_,λy u s h=>?_⟩,(by grind)⟩
  ·have:y=x:=(by grind);subst this;exact K.slot y (zm y (by simp)) s h
  ·have:y=x:=(by grind);subst this;exact K.U4 y (zm y (by simp)) s h
theorem pW{P:aA5}{f:aA6}{xs:List aAp}{ts:Array aAg}{a:aBe}{w:aAf}(B5:∀args w,(callFunc f args).run P w= .ok (.enter f args) w):(execOp a.eval ⟨d,.call ⟨.value (.func f),xs.toArray,ts⟩,ty,p,af,gd⟩).run P w= .ok (.enter f (xs.map a.eval).toArray) w:=by
 simp[execOp,resolve,Act.eval,Deferred.ofValue,invoke,B5]
theorem pK{f:aA6}{xs:List aAp}{ts:Array aAg}{ss:List Slot}{res:Slot}{new:List (Nat×j2)}(k:Nat)(hc:O4 F.P f ss res new)(B5:∀args w,(callFunc f args).run F.P w= .ok (.enter f args) w)(ha:W7 O false xs ss)(D6:gH res new=true):JO F ⟨d,.call ⟨.value (.func f),xs.toArray,ts⟩,ty,p,af,gd⟩ O (res.map (·+k)) (Gi (·+k) new):=by
 intro ρ S a w K;refine j6.enter (pW B5) ?_;have:=ha.spec (by grind [Op.operands,Call.operands]) K;refine(hc S w _ ρ K.low this).mono ?_;rintro e u ⟨v,rfl,h⟩;exact⟨v,rfl,h.shift k D6⟩
def D7(s:Slot):Prop:=∀ρ S S' w u,s.ok ρ S w u->s.ok ρ S' w u
def M9(new:List (Nat×j2)):Prop:=∀i en,aF new i=some en->∀ρ S S' w u,en.ok ρ S w u->en.ok ρ S' w u
theorem ki.of_eq{O:AS}{r:Nat->Nat}{ls:List Nat}{s s':Slot}(h:s=s'.map r):ki O r ls s s':=by subst h;exact .same
theorem D7.v{α:Type}{e:Fu α}[F7 e]{x:α}:D7 (.v e x):=λρ S C w u h=>by
 obtain⟨cs,A,B⟩:=h;exact⟨cs,F7.flat A,B⟩
theorem D7.ref{i:Nat}:D7 (.ref i):=λρ S A w u h=>by grind [Slot.ok]
inductive P6:List Slot->Prop
 |nil:P6 []
 |v {α:Type} {e:Fu α} [F7 e] {x:α} {l}:P6 l->P6 (.v e x::l)
 |ref {i:Nat} {l}:P6 l->P6 (.ref i::l)
 |agg {l l':List Slot}:P6 l'->P6 l->P6 (.agg l'::l)
theorem P6.spec{l:List Slot}(h:P6 l):(∀ρ S S' w vs,aG ρ S w l vs->aG ρ S' w l vs)/\(∀ρ S S' w vs,aL ρ S w l vs->aL ρ S' w l vs):=by
 induction h with
 |nil=>exact⟨λ_ _ _ _ _ h=>h,λ_ _ _ _ _ h=>h⟩
 |v _ E=>
  refine⟨λρ S S' w vs h=>?_,λρ S S' w vs h=>?_⟩
  ·simp only[aG] at h ⊢;obtain⟨u,A,B,C,D⟩:=h;exact⟨u,A,B,D7.v ρ S S' w u C,E.1 ρ S S' w _ D⟩
  ·simp only[aL,Slot.I2] at h ⊢;obtain⟨u,A,B,C,D⟩:=h;exact⟨u,A,B,F7.flat C,E.2 ρ S S' w _ D⟩
 |ref _ E=>
  refine⟨λρ S S' w vs h=>?_,λρ S S' w vs h=>?_⟩
  ·simp only[aG] at h ⊢;obtain⟨u,A,B,C,D⟩:=h;exact⟨u,A,B,D7.ref ρ S S' w u C,E.1 ρ S S' w _ D⟩
  ·simp only[aL,Slot.I2] at h ⊢;obtain⟨u,A,B,C,D⟩:=h;exact⟨u,A,B,C,E.2 ρ S S' w _ D⟩
 |agg _ _ F E=>
  grind [aG,Slot.ok,aL,Slot.I2]
theorem D7.agg{l:List Slot}(h:P6 l):D7 (.agg l):=λρ S A w u k=>by
 obtain⟨cs,B,C⟩:=k;exact⟨cs,B,h.spec.2 ρ S A w _ C⟩
theorem D7.q9{l:List Slot}(h:P6 l):D7 (.q9 l):=λρ S A w u k=>by
 obtain⟨cs,B,C⟩:=k;exact⟨cs,B,h.spec.1 ρ S A w _ C⟩
theorem M9.nil:M9 []:=λi u h=>by simp[aF] at h
theorem M9.arr{α:Type}{i:Nat}{T:aAg}{e:Fu α}[F7 e]{xs:List α}{r:List (Nat×j2)}(h:M9 r):M9 ((i,.arr T e xs)::r):=by
 intro j B A;simp[aF] at A;cases hb:Nat.beq i j with
 |true=>
  rw[hb] at A;simp at A;subst A;intro ρ S S' w u h;rcases h with h |⟨b,C,D,cs,E,F,G,I,K⟩
  ·exact .inl h
  ·exact .inr ⟨b,C,D,cs,E,F,G,F7.H8 I,K⟩
 |false=>rw[hb] at A;exact h j B A
theorem Ap{f:aA6}{xs:List aAp}{ts:Array aAg}{ss:List Slot}{res:Slot}{new:List (Nat×j2)}(k:Nat)(hc:O4 F.P f ss res new)(B5:∀args w,(callFunc f args).run F.P w= .ok (.enter f args) w)(ha:W7 O true xs ss)(D6:gH res new=true)(hf:D7 res)(hn:M9 new):JO F ⟨d,.call ⟨.value (.func f),xs.toArray,ts⟩,ty,p,af,gd⟩ O (res.map (·+k)) (Gi (·+k) new):=by
 intro ρ S a w K;refine j6.enter (pW B5) ?_;have:=ha.spec (by grind [Op.operands,Call.operands]) K;refine(hc (λ_=>False) w _ ρ (λ_ h=>h.elim) this).mono ?_;rintro e G ⟨v,rfl,h⟩;refine⟨v,rfl,y9.shift k D6 ?_⟩;obtain⟨ρ',C,D,E,u⟩:=h;exact⟨ρ',C,D,hf _ _ _ _ _ E,⟨λi A B=>hn i A B _ _ _ _ _ (u.own i A B),u.fresh,u.inj⟩⟩
end
def gL(d:Option Tmp)(s:Slot)(g:List (Nat×Slot)):List (Nat×Slot):=match d with | some t=>(t,s)::g | none=>g
def rd:aAp->List Nat | .tmp t=>[t] | _=>[]
def Ny(ops:Array aBa)(o:aBa):List Nat:=o.op.operands.toList.flatMap rd++(match o.guard with | some (g,_)=>((ops[g]?).bind (·.dst)).toList | none=>[])
def Kg(o:aBa):List Nat:=o.after.toList.filterMap λe=>if Region.binds .any e then some e.on else none
def xS(ops:Array aBa):Bool:=(List.range ops.size).all λi=>match ops[i]? with | none=>false | some o=>(Kg o).all λj=>decide (j<i)
section
def IY(ops:Array aBa)(L:Nat->Bool):Prop:=∀i o,L i=true->ops[i]? =some o->∀j∈Kg o,L j=true
theorem Un.congr{S:Nat->Prop}{ρ:Nat->LV}{d d':List (Nat×j2)}(h:∀l en,aF d l=some en↔aF d' l=some en):Un S ρ d=Un S ρ d':=by
 funext k;refine propext ⟨λu=>?_,λu=>?_⟩
 ·rcases u with u |⟨i,en,A,B⟩
  ·exact .inl u
  ·exact .inr ⟨i,en,(h i en).1 A,B⟩
 ·rcases u with u |⟨i,en,A,B⟩
  ·exact .inl u
  ·exact .inr ⟨i,en,(h i en).2 A,B⟩
theorem Core.congr{d d':List (Nat×j2)}{ρ:Nat->LV}{w:aAf}(h:∀l en,aF d l=some en↔aF d' l=some en)(hc:Core F d ρ w):Core F d' ρ w:=
 ⟨hc.low,hc.size,hc.frame,hc.os,hc.tape,hc.output,λi en u=>by rw[<-Un.congr h];exact hc.own i en ((h i en).2 u),λi en b u=>hc.fresh i en b ((h i en).2 u),λi j en A b u B=>hc.inj i j en A b ((h i en).2 u) ((h j A).2 B),
  λi en b u=>hc.apart i en b ((h i en).2 u)⟩
theorem Core.below{d:List (Nat×j2)}{ρ:Nat->LV}{w w':aAf}(hc:Core F d ρ w)(hb:Below w.heap.size w w'):Core F d ρ w'/\Ext (Un F.S0 ρ d) (Un F.S0 ρ d) w w':=by
 have B:Ext (Un F.S0 ρ d) (Un F.S0 ρ d) w w':=qL hb λ_ _ h=>h
 exact⟨⟨hc.low,eo hc.size hb.size,λk C D=>(hb.block k (gn C hc.size)).trans (hc.frame k C D),hb.os.trans hc.os,hb.tape.trans hc.tape,hb.output.trans hc.output,
  λi u h=>j2.j5 (hc.own i u h) B (λ_ _=>rfl) (λb A=>hb.block b (hc.fresh i u b h A).2),λi u b h A=>⟨(hc.fresh i u b h A).1,gn (hc.fresh i u b h A).2 hb.size⟩,hc.inj,hc.apart⟩,B⟩
theorem kF{g:List (Nat×Slot)}{t u:Nat}{s:Slot}:lk ((t,s)::g) u=if t=u then some s else lk g u:=by
 simp[lk,Nat.beq,gP]
theorem EE(m i:Nat)(L:Nat->Bool)(hi:i<m)(hL:L i=false):((List.range m).filter λq=>q==i || L q).length=((List.range m).filter λq=>L q).length+1:=by
 induction m with
 |zero=>omega
 |succ m B=>
  rw[List.range_succ,aGf,aGf,cM,cM];by_cases u:i=m
  ·subst u;have:((List.range i).filter λq=>q==i || L q)=(List.range i).filter λq=>L q:=by
    refine List.filter_congr λq A=>?_;have:=zd.1 A;have:(q==i)=false:=(by simp;omega);simp[this]
   rw[this];simp[hL]
  grind
end
theorem uT{P:aA5}{T:aAg}{ti:TypeInfo}(h:∀w,(typeInfo T).run P w= .ok ti w):P.info? T=some ti:=by
 have:=h default;unfold typeInfo at this;cases hi:P.info? T<;>simp_all
theorem oB{P:aA5}{T:aAg}{de:aA9}(h:∀w,(underlying T).run P w= .ok de w):P.underlying T=some de:=by
 have:=h default;unfold underlying at this;cases hi:P.underlying T<;>simp_all
theorem Jc{P:aA5}{T:aAg}{ti:TypeInfo}{n:Nat}(h:∀w,(typeInfo T).run P w= .ok ti w)(hs:∀w,(sizeOf T).run P w= .ok n w):ti.size=n:=by
 simp_all [default,sizeOf]
structure ff (b:Nat) (w w':aAf):Prop where
 size:w'.heap.size=w.heap.size
 other:∀k,k≠b->w'.heap[k]? =w.heap[k]?
 os:w'.os=w.os
 tape:w'.tape=w.tape
 output:w'.output=w.output
theorem ff.setRow(w:aAf)(b:Nat)(cs:Array aA4):ff b w (w.setRow b cs):=⟨by simp,λk h=>setRow_other w b k cs h,rfl,rfl,rfl⟩
theorem bA{d:List (Nat×j2)}{t u:Nat}{s:j2}:aF ((t,s)::d) u=if t=u then some s else aF d u:=by
 simp[aF,Nat.beq,gP]
section
theorem Core.gv{d:List (Nat×j2)}{ρ:Nat->LV}{w w':aAf}{i b:Nat}{en en':j2}(hc:Core F d ρ w)(hi:aF d i=some en)(hb:mS (ρ i) b)(hu:ff b w w')(Z7:Ext (Un F.S0 ρ d) (Un F.S0 ρ d) w w'->en'.ok ρ (Un F.S0 ρ d) w' (ρ i)):Core F ((i,en')::d) ρ w'/\Ext (Un F.S0 ρ d) (Un F.S0 ρ ((i,en')::d)) w w':=by
 have L:∀k,Un F.S0 ρ ((i,en')::d) k↔Un F.S0 ρ d k:=by
  intro k;constructor
  ·rintro (h |⟨j,e,C,D⟩)
   ·exact .inl h
   ·rw[bA] at C;split at C
    ·rename_i u;subst u;exact .inr ⟨i,en,hi,D⟩
    ·exact .inr ⟨j,e,C,D⟩
  ·rintro (h |⟨j,e,C,D⟩)
   ·exact .inl h
   ·by_cases u:i=j
    ·subst u;exact .inr ⟨i,en',by rw[bA,sM rfl],D⟩
    ·exact .inr ⟨j,e,by rw[bA,nS u];exact C,D⟩
 have Q:Un F.S0 ρ d b:= .inr ⟨i,en,hi,hb⟩;have I:Ext (Un F.S0 ρ d) (Un F.S0 ρ d) w w':=⟨by rw[hu.size];exact gC _,λk A B=>⟨hu.other k (λe=>by subst e;exact B Q),B⟩⟩;have M:Ext (Un F.S0 ρ d) (Un F.S0 ρ ((i,en')::d)) w w':=⟨I.size,λk A B=>⟨(I.eh k A B).1,λh=>B ((L k).1 h)⟩⟩;have R:Ext (Un F.S0 ρ d) (Un F.S0 ρ ((i,en')::d)) w' w':=⟨gC _,λk A B=>⟨rfl,λh=>B ((L k).1 h)⟩⟩;have N:∀j e,aF ((i,en')::d) j=some e->(j=i/\e=en')\/(j≠i/\aF d j=some e):=by
  intro j e h;rw[bA] at h;split at h
  ·rename_i u;cases h;exact .inl ⟨u.symm,rfl⟩
  ·rename_i u;exact .inr ⟨λe=>u e.symm,h⟩
 have G:∀j e,aF ((i,en')::d) j=some e->∃e',aF d j=some e':=λj e h=>by
  rcases N j e h with⟨rfl,_⟩|⟨_,h⟩
  ·exact⟨en,hi⟩
  ·exact⟨e,h⟩
 refine⟨⟨hc.low,by rw[hu.size];exact hc.size,λk A O=>?_,hu.os.trans hc.os,hu.tape.trans hc.tape,hu.output.trans hc.output,λj e h=>?_,λj e k h K=>?_,λj P e e' k h E S T=>?_,λj e k h K=>?_⟩,M⟩
 ·have:k≠b:=λe=>by
   subst e;rcases (hc.fresh i en k hi hb).1 with h | h
   ·omega
   ·exact O h
  rw[hu.other k this];exact hc.frame k A O
 ·rcases N j e h with⟨rfl,rfl⟩|⟨X,h⟩
  ·exact j2.j5 (Z7 I) R (λ_ _=>rfl) (λ_ _=>rfl)
  ·refine j2.j5 (hc.own j e h) M (λ_ _=>rfl) (λk A=>hu.other k λe'=>X ?_);subst e';exact hc.inj j i e en k h hi A hb
 ·obtain⟨e',E⟩:=G j e h;rw[hu.size];exact hc.fresh j e' k E K
 ·obtain⟨U,C⟩:=G j e h;obtain⟨V,D⟩:=G P e' E;exact hc.inj j P U V k C D S T
 ·obtain⟨e',E⟩:=G j e h;exact hc.apart j e' k E K
theorem lC{o:aBa}{i:Nat}{en en':j2}(hi:aF O.d i=some en)(hd:o.dst=none)(h:∀(ρ:Nat->LV) (a:aBe) (w:aAf),Core F O.d ρ w->(∀t s,lk O.g t=some s->s.ok ρ (Un F.S0 ρ O.d) w (a.tmps.getD t undef))->∃b w',mS (ρ i) b/\ff b w w'/\(execOp a.eval o).run F.P w= .ok .skip w'/\(Ext (Un F.S0 ρ O.d) (Un F.S0 ρ O.d) w w'->en'.ok ρ (Un F.S0 ρ O.d) w' (ρ i))):JM F o O ⟨O.g,(i,en')::O.d⟩:=by
 rintro a w ⟨⟨ρ,u,A⟩,L,M⟩;obtain⟨b,w',C,D,E,G⟩:=h ρ a w u A;refine j6.skip E ?_;obtain⟨I,K⟩:=u.gv hi C D G;rw[hd];exact⟨⟨ρ,I,λt s B=>Slot.j5 s _ (A t s B) K (λ_ _=>rfl)⟩,L,M⟩
end
section
variable {d:Option Tmp}{x y:aAp}
theorem Hp{ρ:Nat->LV}{a:aBe}{w:aAf}(hs:∀t s,lk O.g t=some s->s.ok ρ (Un F.S0 ρ O.d) w (a.tmps.getD t undef))(h:aV O.g x=some s):s.ok ρ (Un F.S0 ρ O.d) w (a.eval x):=by
 cases x with
 |tmp t=>exact hs t s h
 |const u=>exact(Jy h ρ _ w).1
 |global g=>cases h
 |func f=>cases h
theorem Dw{ρ S w}{s:Slot}{cs:List aA4}(h:s.I2 ρ S w cs):∀v∈cs,s≠.top->v.oneCell'=true:=by
 intro v u C;cases s<;>simp only[Slot.I2] at h
 case v e z=>exact e.cell h v u
 case ref i=>obtain⟨⟨a,l,c,A⟩|⟨a,A⟩,rfl⟩:=h<;>(simp at u;rw[u,A];rfl)
 case ptr i B=>obtain⟨⟨b,A⟩,rfl⟩:=h;simp at u;rw[u,A];rfl
 case wi i B k n=>obtain⟨⟨b,A⟩,rfl⟩:=h;simp at u;rw[u,A];rfl
 case el i k n B=>obtain⟨⟨b,o,l,c,A⟩,rfl⟩:=h;simp at u;rw[u,A];rfl
 case T9 i B lo n cap=>obtain⟨⟨b,A⟩,rfl⟩:=h;simp at u;rw[u,A];rfl
 case esl i B n cap=>obtain⟨⟨b,o,l,c,A⟩,rfl⟩:=h;simp at u;rw[u,A];rfl
 case sub i B n=>obtain⟨⟨a,l,c,A⟩,D,E,F,G,rfl⟩:=h;simp at u;rw[u,A];cases a<;>rfl
 case B8 e z=>obtain⟨b,B,I,rfl,A⟩:=h;simp at u;rw[u];rfl
 case G0 g cap=>obtain⟨vs,rfl,A⟩:=h;simp at u;rw[u];rfl
 case top=>exact absurd rfl C
theorem jF{P:aA5}{w:aAf}{U T:aAg}{b off n:Nat}{v:aA4}{a c e:List aA4}(hS:∀w,(sizeOf U).run P w= .ok n w)(hn:v.cells.size=n)(X1:∀u∈v.cells.toList,u.oneCell'=true)(hb:w.heap[b]? =some (.cells (a++(c++e)).toArray T (0,0)))(aK0:a.length=off)(hc:c.length=n):(storeVar U ⟨b,off,none⟩ v).run P w= .ok () (w.setRow b (a++(v.cells.toList++e)).toArray):=by
 unfold storeVar;simp[Sem.run_bind,hS,Result.andThen_ok,hn,ne_eq,aGt,M5];have:=run_storeCells_at P b off T v.cells.toList 0 _ w hb (by grind) X1
 grind
theorem iC{P:aA5}{a:aBe}{w w':aAf}{U:aAg}{ad:aBc}(h2:a.eval x= .pointer (some ad))(D9:(storeVar U ad (a.eval y)).run P w= .ok () w'):(execOp a.eval ⟨d,.store U x y,ty,p,af,gd⟩).run P w= .ok .skip w':=by
 simp_all [execOp,Instr.storeAt,Instr.sureAddr,Sem.run_bind,Sem.run_pure,Result.andThen_ok]
theorem Kh{T U:aAg}{l:List Slot}{i off n:Nat}{s0:Slot}(hx:aV O.g x=some (.ptr i off))(he:aF O.d i=some (.box T l pb))(ho:jJ l off=some s0)(hy:aV O.g y=some s)(hp:s.plain=true)(N2:Nat.beq s.sz n=true)(Y4:Nat.beq s0.sz n=true)(hS:∀w,(sizeOf U).run F.P w= .ok n w):JM F ⟨none,.store U x y,ty,p,af,gd⟩ O ⟨O.g,(i,.box T (jK l off s) pb)::O.d⟩:=by
 replace N2:=gP N2;replace Y4:=gP Y4;refine lC he rfl λρ a w B C=>?_;have K:=aY B C (Op.store U x y).operands;obtain⟨b,cs,D,N,E,Q⟩:=yF K (x:=x) (by simp[Op.operands]) hx he;have A:=pV hp (Hp C hy);obtain⟨R,c,S,rfl,rfl,V,X⟩:=uD ho Q;have G:=λu L=>Dw A u L (λe=>by subst e;cases hp);have I:=jF (P:=F.P) (w:=w) (U:=U) hS (by have:=mG A;simp only[rk] at this;omega) G E rfl (by rw[mG V];exact Y4);refine⟨b,w.setRow b (R++((a.eval y).cells.toList++S)).toArray,.inl (by rw[D];rfl),ff.setRow w b _,?_,λM=>?_⟩
 ·exact iC N I
 ·refine⟨⟨b,_,D,setRow_heap w b _ _ T _ E,?_⟩,(B.own i _ he).2⟩;exact eI _ _ (X s _ A) M (λ_ _=>rfl)
theorem iT{α:Type}{e:Fu α}{z:α}{T U:aAg}{l l':List Slot}{i:Nat}(hx:aV O.g x=some (.ptr i 0))(he:aF O.d i=some (.box T l pb))(hl:Nat.beq (l.map Slot.sz).sum e.n=true)(hy:aV O.g y=some (.v e z))(U1:X7 l' e z)(hS:∀w,(sizeOf U).run F.P w= .ok e.n w):JM F ⟨none,.store U x y,ty,p,af,gd⟩ O ⟨O.g,(i,.box T l' pb)::O.d⟩:=by
 replace hl:=gP hl;refine lC he rfl λρ a w D E=>?_;have K:=aY D E (Op.store U x y).operands;obtain⟨b,cs,G,Q,C,B⟩:=yF K (x:=x) (by simp[Op.operands]) hx he;have A:=pV (s:= .v e z) rfl (Hp E hy);simp only[Slot.I2] at A;have I:cs.length=e.n:=by
  rw[<-hl];clear hl hS hx he C K
  induction l generalizing cs with
  |nil=>simp only[aL] at B;simp[B]
  |cons t l V=>
   simp only[aL] at B;obtain⟨c,d,rfl,R,S⟩:=B;rw[cM,mG R,V d S];simp
 have L:=jF (P:=F.P) (w:=w) (U:=U) (a:=[]) (c:=cs) (e:=[]) hS (by have:=e.len A;simp only[rk] at this;omega) (λu M=>e.cell A u M) (by simpa using C) rfl I;refine⟨b,w.setRow b ([]++((a.eval y).cells.toList++[])).toArray,.inl (by rw[G];rfl),ff.setRow w b _,?_,λN=>?_⟩
 ·exact iC Q L
 ·refine⟨⟨b,_,G,setRow_heap w b _ _ T _ C,?_⟩,(D.own i _ he).2⟩;refine eI _ _ ((U1 _ _ _ _).2 ?_) N (λ_ _=>rfl);simpa using A
theorem Aq{T U:aAg}{l l':List Slot}{i n:Nat}(hx:aV O.g x=some (.ptr i 0))(he:aF O.d i=some (.box T l pb))(hl:(l.map Slot.sz).sum=n)(hy:aV O.g y=some (.agg l'))(U1:(l'.map Slot.sz).sum=n)(hnt:l'.all Slot.plain=true)(hS:∀w,(sizeOf U).run F.P w= .ok n w):JM F ⟨none,.store U x y,ty,p,af,gd⟩ O ⟨O.g,(i,.box T l' pb)::O.d⟩:=by
 refine lC he rfl λρ a w Q R=>?_;have K:=aY Q R (Op.store U x y).operands;obtain⟨b,cs,S,h2,V,A⟩:=yF K (x:=x) (by simp[Op.operands]) hx he;have M:=Hp R hy;simp only[Slot.ok] at M;obtain⟨X,D,E⟩:=M;have N:∀(l:List Slot) (cs:List aA4),aL ρ (Un F.S0 ρ O.d) w l cs->cs.length=(l.map Slot.sz).sum:=by
  intro l
  induction l with
  |nil=>intro cs A;simp only[aL] at A;simp[A]
  |cons t l L=>
   intro cs A;simp only[aL] at A;obtain⟨c,d,rfl,G,I⟩:=A;rw[cM,mG G,L d I];simp
 have X1:∀(l:List Slot) (cs:List aA4),l.all Slot.plain=true->aL ρ (Un F.S0 ρ O.d) w l cs->∀u∈cs,u.oneCell'=true:=by
  intro l
  induction l with
  |nil=>intro cs _ A;simp only[aL] at A;simp[A]
  |cons t l L=>
   intro cs C A u B;simp only[aL] at A;obtain⟨c,d,rfl,G,I⟩:=A;simp only[List.all_cons,bm] at C;rcases oq.1 B with B | B
   ·exact Dw G u B (λe=>by subst e;cases C.1)
   ·exact L d C.2 I u B
 have D9:=jF (P:=F.P) (w:=w) (U:=U) (a:=[]) (c:=cs) (e:=[]) (v:=a.eval y) hS (by rw[D];simp[Value.cells,N l' X E,U1]) (by rw[D];simpa[Value.cells] using X1 l' X hnt E) (by simpa using V) rfl (by rw[N l cs A,hl]);refine⟨b,w.setRow b ([]++((a.eval y).cells.toList++[])).toArray,.inl (by rw[S];rfl),ff.setRow w b _,?_,λhE=>?_⟩
 ·exact iC h2 D9
 ·refine⟨⟨b,_,S,setRow_heap w b _ _ T _ V,?_⟩,(Q.own i _ he).2⟩;refine eI _ _ ?_ hE (λ_ _=>rfl);rw[D];simpa[Value.cells] using E
theorem XJ{xs:Array aAp}{ρ:Nat->LV}{S a w}(K:M4 O xs ρ S a w)(hm:x∈xs){α:Type}{e:Fu α}{zs:List α}{T:aAg}{i k off:Nat}(hx:aV O.g x=some (.el i k e.n off))(he:aF O.d i=some (.arr T e zs)):∃b cap pre cs post,(ρ i).v= .slice (some ⟨b,pre.length,none⟩) zs.length cap/\a.eval x= .pointer (some ⟨b,pre.length+(k*e.n+off),none⟩)/\w.heap[b]? =some (.cells (pre++(cs++post)).toArray T (0,0))/\e.H8 zs S w cs/\zs.length<=cap/\cap*e.n<=cs.length+post.length/\zs.length<=140737488355328:=by
 have h:=K.slot x hm _ hx;obtain⟨⟨b,o,l,c,A⟩,C⟩:=h;have:=(K.U4 x hm _ hx i (by simp[Slot.E1]) _ he).1;rw[A] at C;rcases this with⟨_,u⟩|⟨F,cap,pre,cs,post,u,D,E⟩
 ·rw[A] at u;cases u
 ·have B:=A.symm.trans u;simp only[Value.slice.injEq,W6,Addr.mk.injEq,and_true] at B;obtain⟨⟨rfl,rfl⟩,_,_⟩:=B;exact⟨b,cap,pre,cs,post,u,C,D,E⟩
theorem BC{α:Type}{e:Fu α}{zs:List α}{T U E:aAg}{k:aA7}{n:Int}{z:α}{i:Nat}(hz:Sw.idx zs n=some z)(hx:aV O.g x=some (.ref i))(he:aF O.d i=some (.arr T e zs))(hy:aV O.g y=some (.v (Fu.int k) n))(hU:∀w,(underlying U).run F.P w= .ok (.slice E) w)(hE:∀w,(sizeOf E).run F.P w= .ok e.n w):JO F ⟨d,.indexAddr U x y,ty,p,af,gd⟩ O (.el i n.toNat e.n 0) []:=by
 intro ρ S a w K;obtain⟨D,u,_⟩:=xF K (x:=x) (by simp[Op.operands]) hx he;have C:=(dC K (x:=y) (by simp[Op.operands]) hy).1;obtain⟨G,A,I⟩:=iX hz;rcases u with⟨rfl,_⟩|⟨b,L,B,cs,M,N,_⟩
 ·simp at A
 refine j6.value (w':=w) (v:= .pointer (some ⟨b,B.length+n.toNat*e.n,none⟩)) ?_ (y9.same (by grind [Slot.ok,Jw]))
 simp_all [Ao,execOp]
theorem Gj{α β:Type}{e:Fu α}{zs:List α}{z:α}{e':Fu β}{z':β}{T U:aAg}{i k off:Nat}(hz:zs[k]? =some z)(hx:aV O.g x=some (.el i k e.n off))(he:aF O.d i=some (.arr T e zs))(hp:Prj e z off e' z')(hA:∀w,(isAgg U).run F.P w= .ok e'.agg w)(hS:∀w,(sizeOf U).run F.P w= .ok e'.n w):JO F ⟨d,.load U x,ty,p,af,gd⟩ O (.v e' z') []:=by
 intro ρ S a w K;obtain⟨b,X,u,cs,B,h1,N,Q,R,_⟩:=XJ K (x:=x) (by simp[Op.operands]) hx he;obtain⟨C,c,D,rfl,hl,V,_⟩:=nL R hz;obtain⟨E,c2,G,rfl,fa,I⟩:=hp S w c V;have L:r8 w b (u.length+(k*e.n+off)) c2:=by
  have A:=r8.of_heap Q;have M:u++(C++(E++(c2++G)++D)++B)=(u++C++E)++(c2++(G++D++B)):=by simp
  rw[M] at A;have:=A.sub
  grind
 refine j6.value (w':=w) (v:=e'.pk c2) ?_ (y9.same (by simp only[Slot.ok];exact⟨c2,I,rfl⟩));have:=Cu (P:=F.P) L I hA hS;simp[execOp,N,Instr.loadAt,Instr.sureAddr,this]
theorem Xt(o':Nat){α:Type}{e:Fu α}{U:aAg}{fs:Array aA8}{n m i k off:Nat}{fl:aA8}(hx:aV O.g x=some (.el i k e.n off))(hU:∀w,(underlying U).run F.P w= .ok (.struct fs) w)(hf:fs[n]? =some fl)(hm:∀w,(sizeOf fl.type).run F.P w= .ok m w)(G4:Nat.beq m 0=false)(ho:Nat.beq (off+fl.offset) o'=true):JO F ⟨d,.fieldAddr U x n,ty,p,af,gd⟩ O (.el i k e.n o') []:=by
 have ho:=gP ho;subst ho;intro ρ S a w K;have h:=K.slot x (by simp[Op.operands]) _ hx;simp only[Slot.ok] at h;obtain⟨⟨b,o,l,c,u⟩,A⟩:=h;rw[u] at A;refine j6.value (w':=w) (v:= .pointer (some ⟨b,o+(k*e.n+off)+fl.offset,none⟩)) ?_ (y9.same (by grind [Slot.ok,Jw]))
 simp_all [An,execOp,Jw]
theorem Xu{α:Type}{e:Fu α}{zs:List α}{z z':α}{T U:aAg}{i k:Nat}(hz:zs[k]? =some z)(hx:aV O.g x=some (.el i k e.n 0))(he:aF O.d i=some (.arr T e zs))(hy:aV O.g y=some (.v e z'))(hS:∀w,(sizeOf U).run F.P w= .ok e.n w):JM F ⟨none,.store U x y,ty,p,af,gd⟩ O ⟨O.g,(i,.arr T e (zs.set k z'))::O.d⟩:=by
 refine lC he rfl λρ a w S I=>?_;have K:=aY S I (Op.store U x y).operands;obtain⟨b,ab,A,cs,B,L,h2,G,h4,h5,h6,h7⟩:=XJ K (x:=x) (by simp[Op.operands]) hx he;have E:=pV (s:= .v e z') rfl (Hp I hy);simp only[Slot.I2] at E;obtain⟨C,c,D,rfl,hl,M,M6⟩:=nL h4 hz;have N:A++(C++(c++D)++B)=(A++C)++(c++(D++B)):=by simp
 rw[N] at G;have Q:=jF (P:=F.P) (w:=w) (U:=U) (off:=A.length+(k*e.n+0)) hS (by have:=e.len E;simp only[rk] at this;omega) (λu V=>e.cell E u V) G (by simp[hl]) (e.len M);have R:(A++C)++((a.eval y).cells.toList++(D++B))=A++((C++((a.eval y).cells.toList++D))++B):=by simp
 refine⟨b,w.setRow b ((A++C)++((a.eval y).cells.toList++(D++B))).toArray,.inl (by rw[L];rfl),ff.setRow w b _,?_,λX=>?_⟩
 ·exact iC h2 Q
 ·refine .inr ⟨b,ab,A,C++((a.eval y).cells.toList++D),B,by simpa using L,?_,Fu.q8 (M6 z' _ E) X,by simpa using h5,?_,by simpa using h7⟩
  ·rw[<-R];exact setRow_heap w b _ _ T _ G
  ·have:=e.len E;have:=e.len M;simp only[cM] at h6 ⊢;omega
theorem Ar{P:aA5}{w:aAf}{U E:aAg}{m b off len:Nat}{k:aA7}{n:Int}(hU:∀w,(underlying U).run P w= .ok (.array len E) w)(hE:∀w,(sizeOf E).run P w= .ok m w)(h0:0<=n)(h1:n<len):(Instr.indexAt U (.pointer (some ⟨b,off,none⟩)) (.int k n)).run P w= .ok (.pointer (some ⟨b,off+n.toNat*m,none⟩)) w:=by
 simp_all [Addr.add,Addr.add_lit,Instr.indexAt,asIntOf,Instr.sureAddr]
theorem Nz{α:Type}{e:Fu α}{zs:List α}{T U E:aAg}{l:List Slot}{len i off:Nat}{k:aA7}{n:Int}{z:α}(hz:Sw.idx zs n=some z)(hx:aV O.g x=some (.ptr i off))(he:aF O.d i=some (.box T l pb))(ho:jJ l off=some (.v (Fu.arr len e) zs))(hy:aV O.g y=some (.v (Fu.int k) n))(hU:∀w,(underlying U).run F.P w= .ok (.array len E) w)(hE:∀w,(sizeOf E).run F.P w= .ok e.n w):JO F ⟨d,.indexAddr U x y,ty,p,af,gd⟩ O (.wi i off n.toNat e.n) []:=by
 intro ρ S a w K;obtain⟨b,cs,u,I,L,A⟩:=yF K (x:=x) (by simp[Op.operands]) hx he;have D:=(dC K (x:=y) (by simp[Op.operands]) hy).1;obtain⟨B,M,N⟩:=iX hz;obtain⟨Q,c,R,rfl,_,C,_⟩:=uD ho A;have G:=C.1;refine j6.value (w':=w) (v:= .pointer (some ⟨b,off+n.toNat*e.n,none⟩)) ?_ (y9.same (by simp only[Slot.ok];exact⟨⟨b,u⟩,by rw[u];rfl⟩));have:=Ar (P:=F.P) (w:=w) (b:=b) (off:=off) (k:=k) hU hE B (by omega:n<(len:Int))
 simp_all [execOp]
theorem VS{xs:Array aAp}{ρ:Nat->LV}{S a w}(K:M4 O xs ρ S a w)(hm:x∈xs){i off k n:Nat}{T:aAg}{l:List Slot}(hx:aV O.g x=some (.wi i off k n))(he:aF O.d i=some (.box T l pb)):∃b cs,(ρ i).v= .pointer (some ⟨b,0,none⟩)/\a.eval x= .pointer (some ⟨b,off+k*n,none⟩)/\w.heap[b]? =some (.cells cs.toArray T (0,0))/\aL ρ S w l cs:=by
 have h:=K.slot x hm _ hx;obtain⟨⟨b,u⟩,A⟩:=h;have:=(K.U4 x hm _ hx i (by simp[Slot.E1]) _ he).1;rw[u] at A;obtain⟨⟨B,cs,E,C,D⟩,_⟩:=this;have:B=b:=by grind
 subst this;exact⟨B,cs,u,A,C,D⟩
theorem Ki{α:Type}{e:Fu α}{zs:List α}{z:α}{T U:aAg}{l:List Slot}{len i off k:Nat}(hz:zs[k]? =some z)(hx:aV O.g x=some (.wi i off k e.n))(he:aF O.d i=some (.box T l pb))(ho:jJ l off=some (.v (Fu.arr len e) zs))(hA:∀w,(isAgg U).run F.P w= .ok e.agg w)(hS:∀w,(sizeOf U).run F.P w= .ok e.n w):JO F ⟨d,.load U x,ty,p,af,gd⟩ O (.v e z) []:=by
 intro ρ S a w K;obtain⟨b,cs,R,M,N,Q⟩:=VS K (x:=x) (by simp[Op.operands]) hx he;obtain⟨A,c,B,rfl,V,C,_⟩:=uD ho Q;simp only[Slot.I2] at C;obtain⟨D,c',E,rfl,X,G,_⟩:=nL C.2 hz;have I:r8 w b (off+k*e.n) c':=by
  have u:=r8.of_heap N;have L:A++(D++(c'++E)++B)=(A++D)++(c'++(E++B)):=by simp
  rw[L] at u;have:=u.sub
  grind
 refine j6.value (w':=w) (v:=e.pk c') ?_ (y9.same (by simp only[Slot.ok];exact⟨c',G,rfl⟩));have:=Cu (P:=F.P) I G hA hS;simp[execOp,M,Instr.loadAt,Instr.sureAddr,this]
theorem At{α:Type}{e:Fu α}{zs:List α}{z z':α}{T U:aAg}{l:List Slot}{len i off k:Nat}(hz:zs[k]? =some z)(hx:aV O.g x=some (.wi i off k e.n))(he:aF O.d i=some (.box T l pb))(ho:jJ l off=some (.v (Fu.arr len e) zs))(hy:aV O.g y=some (.v e z'))(hS:∀w,(sizeOf U).run F.P w= .ok e.n w):JM F ⟨none,.store U x y,ty,p,af,gd⟩ O ⟨O.g,(i,.box T (jK l off (.v (Fu.arr len e) (zs.set k z'))) pb)::O.d⟩:=by
 refine lC he rfl λρ a w L M=>?_;have K:=aY L M (Op.store U x y).operands;obtain⟨b,cs,N,h2,I,h4⟩:=VS K (x:=x) (by simp[Op.operands]) hx he;have E:=pV (s:= .v e z') rfl (Hp M hy);simp only[Slot.I2] at E;obtain⟨C,c,D,rfl,A6,G,h6⟩:=uD ho h4;simp only[Slot.I2] at G;obtain⟨ab,G⟩:=G;obtain⟨A,Q,B,rfl,hl,lj,M6⟩:=nL G hz;have R:C++(A++(Q++B)++D)=(C++A)++(Q++(B++D)):=by simp
 rw[R] at I;have S:=jF (P:=F.P) (w:=w) (U:=U) (off:=off+k*e.n) hS (by have:=e.len E;simp only[rk] at this;omega) (λu X=>e.cell E u X) I (by simp[hl,A6]) (e.len lj);have V:(C++A)++((a.eval y).cells.toList++(B++D))=C++((A++((a.eval y).cells.toList++B))++D):=by simp
 refine⟨b,w.setRow b ((C++A)++((a.eval y).cells.toList++(B++D))).toArray,.inl (by rw[N];rfl),ff.setRow w b _,?_,λhE=>?_⟩
 ·exact iC h2 S
 ·refine⟨⟨b,C++((A++((a.eval y).cells.toList++B))++D),N,?_,?_⟩,(L.own i _ he).2⟩
  ·rw[<-V];exact setRow_heap w b _ _ T _ I
  ·refine eI _ _ (h6 (.v (Fu.arr len e) (zs.set k z')) (A++((a.eval y).cells.toList++B)) ?_) hE (λ_ _=>rfl);simp only[Slot.I2];exact⟨by simpa using ab,M6 z' _ E⟩
end
def rC(d:List (Nat×j2))(i:Nat):List (Nat×j2):=match d with | []=>[] | (j,u)::r=>bif Nat.beq j i then rC r i else (j,u)::rC r i
theorem Dx{i k:Nat}:∀{d:List (Nat×j2)},aF (rC d i) k=if k=i then none else aF d k
 | []=>by simp[rC,aF]
 | (j,B)::r=>by
  have u:=Dx (i:=i) (k:=k) (d:=r);simp only[rC];cases hb:Nat.beq j i with
  |true=>
   have:=gP hb;subst this;simp only[fE,u,bA]
   grind
  |false=>
   have A:j≠i:=λe=>by simp_all
   simp only[cG,bA,u]
   grind
structure J5 (b:Option Nat) (w w':aAf):Prop where
 size:w.heap.size<=w'.heap.size
 other:∀k,k<w.heap.size->some k≠b->w'.heap[k]? =w.heap[k]?
 os:w'.os=w.os
 tape:w'.tape=w.tape
 output:w'.output=w.output
theorem J5.setRow(w:aAf)(b:Nat)(cs:Array aA4):J5 (some b) w (w.setRow b cs):=⟨by simp,λk _ h=>setRow_other w b k cs (λe=>h (by rw[e])),rfl,rfl,rfl⟩
theorem J5.refl(b:Option Nat)(w:aAf):J5 b w w:=⟨gC _,λ_ _ _=>rfl,rfl,rfl,rfl⟩
theorem J5.alloc(b:Option Nat)(w:aAf)(o:Obj):J5 b w (w.drew.alloc o):=⟨by simp,λk u _=>heap_alloc_old w.drew o k u,rfl,rfl,rfl⟩
section
variable {d:Option Tmp}{x y:aAp}
theorem BE{ρ:Nat->LV}{a:aBe}{w w':aAf}{i j:Nat}{en en':j2}{u:LV}(hc:Core F O.d ρ w)(hs:∀t s,lk O.g t=some s->s.ok ρ (Un F.S0 ρ O.d) w (a.tmps.getD t undef))(hz:a.tmps.size=F.N)(G6:a.defers=F.df)(hi:aF O.d i=some en)(hf:O.free [(j,en')]=true)(J2:eR d F.N=true)(hu:J5 (E2 (ρ i).v) w w')(hsh:AW u.v)(N4:en'.E1=[])(hb:∀b,mS u b->(mS (ρ i) b\/w.heap.size<=b)/\b<w'.heap.size)(Z7:∀S' ρ',Ext (Un F.S0 ρ O.d) S' w w'->en'.ok ρ' S' w' u):St F ⟨gL d (.ref j) O.g,(j,en')::rC O.d i⟩ (a.put d u.v) w':=by
 let ρ':Nat->LV:=λk=>if k=j then u else ρ k
 have K:ρ' j=u:=sM rfl;have G:∀k,k≠j->ρ' k=ρ k:=λk h=>nS h;have oe:=kB hf (i:=j) (en:=en') (by simp[aF]);have P:∀k e,aF ((j,en')::rC O.d i) k=some e->(k=j/\e=en')\/(k≠j/\k≠i/\aF O.d k=some e):=by
  intro k e h;rw[bA] at h;split at h
  ·rename_i A;cases h;exact .inl ⟨A.symm,rfl⟩
  ·rename_i A;rw[Dx] at h;split at h
   ·cases h
   ·rename_i C;exact .inr ⟨λe=>A e.symm,C,h⟩
 have hU:∀k,k<w.heap.size->Un F.S0 ρ' ((j,en')::rC O.d i) k->Un F.S0 ρ O.d k:=by
  rintro k L (h |⟨q,e,A,C⟩)
  ·exact .inl h
  ·rcases P q e A with⟨rfl,rfl⟩|⟨B,E,Q⟩
   ·rw[K] at C;rcases (hb k C).1 with h | h
    ·exact .inr ⟨i,en,hi,h⟩
    ·omega
   ·rw[G q B] at C;exact .inr ⟨q,e,Q,C⟩
 have V:Ext (Un F.S0 ρ O.d) (Un F.S0 ρ' ((j,en')::rC O.d i)) w w':=⟨hu.size,λk L hn=>⟨hu.other k L (λe=>hn (.inr ⟨i,en,hi,.inl e.symm⟩)),λh=>hn (hU k L h)⟩⟩;have ad:∀t s,lk O.g t=some s->lE ρ ρ' s.E1:=λt s h k L=>congrArg LV.v (G k λe=>by subst e;exact oe.1 t s h L);have V9:∀k e b,k≠i->aF O.d k=some e->mS (ρ k) b->¬mS (ρ i) b:=λk e b h A C B=>h (hc.inj k i e en b A hi C B);refine⟨⟨ρ',⟨hc.low,eo hc.size hu.size,λk L hr=>?_,hu.os.trans hc.os,hu.tape.trans hc.tape,hu.output.trans hc.output,λk e h=>?_,λk e b h D=>?_,λk R e M b h h' T S=>?_,λk e b h D=>?_⟩,?_⟩,by rw[kC,hz],by cases d<;>exact G6⟩
 ·rw[hu.other k (gn L hc.size) (λe=>?_)]
  ·exact hc.frame k L hr
  ·rcases (hc.fresh i en k hi (.inl e.symm)).1 with h | h
   ·omega
   ·exact hr h
 ·rcases P k e h with⟨rfl,rfl⟩|⟨A,C,B⟩
  ·rw[K];exact Z7 _ _ V
  ·rw[G k A];refine j2.j5 (hc.own k e B) V (λq hq=>congrArg LV.v (G q λM=>?_)) (λb D=>hu.other b (hc.fresh k e b B D).2 (λM=>V9 k e b C B D (.inl M.symm)));subst M;exact oe.2.2 k e B hq
 ·rcases P k e h with⟨rfl,rfl⟩|⟨A,C,B⟩
  ·rw[K] at D;obtain⟨E,Q⟩:=hb b D;refine⟨?_,Q⟩;rcases E with E | E
   ·exact(hc.fresh i en b hi E).1
   ·exact .inl (eo hc.size E)
  ·rw[G k A] at D;exact⟨(hc.fresh k e b B D).1,gn (hc.fresh k e b B D).2 hu.size⟩
 ·have ab:∀k e,k≠j->k≠i->aF O.d k=some e->mS (ρ k) b->mS u b->False:=λk e _ C B E Q=>by
   rcases (hb b Q).1 with h6 | h6
   ·exact V9 k e b C B E h6
   ·have:=(hc.fresh k e b B E).2;omega
  rcases P k e h with⟨rfl,rfl⟩|⟨A,C,B⟩
  ·rcases P R M h' with⟨rfl,rfl⟩|⟨U,X3,X⟩
   ·rfl
   ·rw[K] at T;rw[G R U] at S;exact(ab R M U X3 X S T).elim
  ·rw[G k A] at T;rcases P R M h' with⟨rfl,rfl⟩|⟨U,X3,X⟩
   ·rw[K] at S;exact(ab k e A C B T S).elim
   ·rw[G R U] at S;exact hc.inj k R e M b B X T S
 ·rcases P k e h with⟨rfl,rfl⟩|⟨A,C,B⟩
  ·rw[K] at D;rcases (hb b D).1 with E | E
   ·exact hc.apart i en b hi E
   ·intro Q;have:=hc.low b Q;have:=hc.size;omega
  ·rw[G k A] at D;exact hc.apart k e b B D
 ·intro t s I;have ac:∀t s,lk O.g t=some s->s.ok ρ' (Un F.S0 ρ' ((j,en')::rC O.d i)) w' (a.tmps.getD t undef):=λt s I=>Slot.j5 s _ (hs t s I) V (ad t s I);cases d with
  |none=>exact ac t s I
  |some q=>
   simp only[gL] at I;have B0:q<a.tmps.size:=(by rw[hz];exact gQ J2);rw[kD a q u.v t B0];rw[kF] at I;split at I
   ·rename_i A;cases I;rw[sM A];simp only[Slot.ok];exact⟨by rw[K];exact hsh,by rw[K]⟩
   ·rename_i A;rw[nS A];exact ac t s I
def Src(O:AS)(y:aAp){α:Type}(e:Fu α)(ys:List α):Prop:=∀(ρ:Nat->LV) (S:Nat->Prop) (a:aBe) (w:aAf),M4 O #[y] ρ S a w->ys.length<=140737488355328/\∃ad cap,a.eval y= .slice ad ys.length cap/\(ys=[]\/∃b off ds,ad=some ⟨b,off,none⟩/\r8 w b off ds/\e.H8 ys S w ds)
theorem Src.sl{α:Type}{e:Fu α}{ys:List α}(h:aV O.g y=some (.v (Fu.sl e) ys)):Src O y e ys:=by
 intro ρ S a w K;have u:=K.slot y (by simp) _ h
 grind [Slot.ok,lY]
def app{α:Type}(xs ys:List α):Option (List α):=if xs.length+ys.length<=4294967296 then some (xs++ys) else none
theorem Tn{α:Type}{xs ys zs:List α}(h:app xs ys=some zs):xs.length+ys.length<=4294967296/\zs=xs++ys:=by
 grind [app]
theorem sQ{P:aA5}{w:aAf}{U E tt:aAg}{n:Nat}{base ad:Option aBc}{l c cap:Nat}(hU:∀w,(underlying U).run P w= .ok (.slice E) w)(hE:∀w,(sizeOf E).run P w= .ok n w)(hle:l<=cap):(Builtin.append_ #[U,U] tt #[.slice base l cap,.slice ad 0 c]).run P w= .ok (.slice base l cap) w:=by
 have u:(Builtin.firstCells n 0 (.slice ad 0 c)).run P w= .ok #[] w:=by
  cases ad<;>simp[Builtin.firstCells,loadCells,loadCellsFrom]
 cases base<;>simp[Builtin.append_,hU,hE,Builtin.lenOf,hle,u,storeCells]
theorem Cm{P:aA5}{w:aAf}{U E tt:aAg}{n g off l cap m c:Nat}{cur:List aA4}{a:aBc}{news:List aA4}(hU:∀w,(underlying U).run P w= .ok (.slice E) w)(hE:∀w,(sizeOf E).run P w= .ok n w)(hg:w.heap[g]? =some (.cells cur.toArray E (0,0)))(hl:news.length=m*n)(X2:∀j u,news[j]? =some u->w.cell? (a.add j)=some u)(h1:∀u∈news,u.oneCell'=true)(cu:l+m<=cap)(lf:off+l*n+news.length<=cur.length):(Builtin.append_ #[U,U] tt #[.slice (some ⟨g,off,none⟩) l cap,.slice (some a) m c]).run P w= .ok (.slice (some ⟨g,off,none⟩) (l+m) cap) (w.setRow g (cur.take (off+l*n)++news++cur.drop (off+l*n+news.length)).toArray):=by
 have B:=run_firstCells_some (P:=P) w n m a m c news hl X2;have A:=run_storeCells_at P g (off+l*n) E news 0 cur.toArray w hg (by simpa using lf) h1;simp only[aHq] at A;simp[Builtin.append_,hU,hE,Builtin.lenOf,cu,B,Addr.add_lit,A]
theorem oR{α:Type}{e:Fu α}{xs ys zs:List α}{T U:aAg}{ti:TypeInfo}{z:aA4}{i:Nat}(j:Nat)(ha:app xs ys=some zs)(hx:aV O.g x=some (.ref i))(he:aF O.d i=some (.arr T e xs))(hy:Src O y e ys)(hU:∀w,(underlying U).run F.P w= .ok (.slice T) w)(hI:∀w,(typeInfo T).run F.P w= .ok ti w)(hS:∀w,(sizeOf T).run F.P w= .ok e.n w)(hz:ti.zero=some z)(hzs:z.cells.size=e.n)(cx:Nat.ble ti.bytes 4096=true)(hf:O.free [(j,.arr T e zs)]=true)(hd:eR d F.N=true):JM F ⟨d,.call ⟨.builtin .append,#[x,y],#[U,U]⟩,ty,p,af,gd⟩ O ⟨gL d (.ref j) O.g,(j,.arr T e zs)::rC O.d i⟩:=by
 obtain⟨ab,rfl⟩:=Tn ha;have cx:=gQ cx;rintro a w ⟨⟨ρ,hc,hs⟩,N2,G6⟩;have K:=aY hc hs (Op.call ⟨.builtin .append,#[x,y],#[U,U]⟩).operands;have ac:ti.size=e.n:=Jc hI hS;obtain⟨h1,A,h3⟩:=xF K (x:=x) (by simp[Op.operands,Call.operands]) hx he;have D3:∀q,q∈#[y]->q∈(Op.call ⟨.builtin .append,#[x,y],#[U,U]⟩).operands:=by
  intro q V;have jv:q=y:=by simpa using V
  subst jv;simp[Op.operands,Call.operands]
 obtain⟨ql,ad,c,h4,h5⟩:=hy ρ _ a w ⟨K.low,λq V s h=>K.slot q (D3 q V) s h,λq V s h=>K.U4 q (D3 q V) s h⟩;have al:∀v w',(Builtin.append_ #[U,U] ty #[(ρ i).v,.slice ad ys.length c]).run F.P w= .ok v w'->(execOp a.eval ⟨d,.call ⟨.builtin .append,#[x,y],#[U,U]⟩,ty,p,af,gd⟩).run F.P w= .ok (.value v) w':=by
  intro v w' h;simp[execOp,resolve,invoke,builtin,h1,h4,h]
 have fin:∀u w',(Builtin.append_ #[U,U] ty #[(ρ i).v,.slice ad ys.length c]).run F.P w= .ok u w'->J5 (E2 (ρ i).v) w w'->AW u->(∀b,E2 u=some b->(E2 (ρ i).v=some b\/w.heap.size<=b)/\b<w'.heap.size)->
   (∀C ρ',Ext (Un F.S0 ρ O.d) C w w'->(j2.arr T e (xs++ys)).ok ρ' C w' (.of u))->
   j6 F.P ⟨d,.call ⟨.builtin .append,#[x,y],#[U,U]⟩,ty,p,af,gd⟩ a w λv w'=>St F ⟨gL d (.ref j) O.g,(j,.arr T e (xs++ys))::rC O.d i⟩ (a.put d v) w':=
  λu w' I hu aq hb Z7=>j6.value (al u w' I) (BE (u:= .of u) hc hs N2 G6 he hf hd hu aq rfl (λb h=>⟨(hb b (nN.1 h)).1.imp .inl id,(hb b (nN.1 h)).2⟩) Z7)
 rcases h5 with rfl |⟨b,ak,D,rfl,hm,yp⟩
 ·
  rw[rf] at*;rcases A with⟨rfl,A⟩|⟨b,cap,B,cs,G,A,L,M,Q,h9⟩
  ·refine fin (.slice none 0 0) w ?_ (J5.refl _ _) (.inl ⟨_,_,_,rfl⟩) (λb h=>by simp[E2] at h) (λ_ _ _=> .inl ⟨rfl,rfl⟩);rw[A];exact sQ hU hS (gC _)
  ·refine fin (ρ i).v w ?_ (J5.refl _ _) (.inl ⟨_,_,_,A⟩) (λb h=>⟨.inl h,(h3 b (.inl h)).2⟩) (λC ρ' E=>?_)
   ·rw[A];exact sQ hU hS Q
   ·exact .inr ⟨b,cap,B,cs,G,A,L,Fu.q8 M E,Q,h9⟩
 ·have R:=bG yp;have P4:=hm.cell;have X1:=qK yp;have ae:∀(C:Nat->Prop) (w':aAf) (cs:List aA4),Ext (Un F.S0 ρ O.d) C w w'->e.H8 xs (Un F.S0 ρ O.d) w cs->e.H8 (xs++ys) C w' (cs++D):=λC w' cs E h=>fG (Fu.q8 h E) (Fu.q8 yp E);have ai:∀q,(Builtin.zeroCells z.cells q).toList.length=q*e.n:=λq=>by rw[rk,size_zeroCells,hzs]
  by_cases an:ys.length=0
  ·
   have ao:ys=[]:=ya an;subst ao;rw[rf] at*;rcases A with⟨rfl,A⟩|⟨b',cap,B,cs,G,A,L,M,Q,h9⟩
   ·refine fin (.slice none 0 0) w ?_ (J5.refl _ _) (.inl ⟨_,_,_,rfl⟩) (λb h=>by simp[E2] at h) (λ_ _ _=> .inl ⟨rfl,rfl⟩);rw[A];exact sQ hU hS (gC _)
   ·refine fin (ρ i).v w ?_ (J5.refl _ _) (.inl ⟨_,_,_,A⟩) (λb h=>⟨.inl h,(h3 b (.inl h)).2⟩) (λC ρ' E=>?_)
    ·rw[A];exact sQ hU hS Q
    ·exact .inr ⟨b',cap,B,cs,G,A,L,Fu.q8 M E,Q,h9⟩
  rcases A with⟨rfl,A⟩|⟨g,cap,B,cs,G,A,L,M,Q,h9,iy⟩
  ·
   have I:=run_append_nil (P:=F.P) w U ty T ti z (oB hU) (uT hI) hz ⟨b,ak,none⟩ ys.length c D (by rw[ac];exact R) P4 (by omega) (by simp at ab;omega) (by
    have:ys.length*ti.bytes<=4294967296*4096:=aGh (by simp at ab;omega) cx
    omega)
   have xp:=grownCap_ge w ys.length 0 T;refine fin _ _ (by rw[A];exact I) (J5.alloc _ _ _) (.inl ⟨_,_,_,rfl⟩) (λb' h=>?_) (λC ρ' E=>?_)
   ·simp only[E2,W6] at h;subst h;exact⟨.inr (gC _),by simp⟩
   ·have aj:=ae C _ [] E rfl;simp only[rh] at aj ⊢;refine .inr ⟨w.heap.size,_,[],D,(Builtin.zeroCells z.cells (grownCap w ys.length 0 T - ys.length)).toList,rfl,?_,aj,xp,?_,by simp at ab;omega⟩
    ·rw[show w.heap.size=w.drew.heap.size from rfl,heap_alloc_new];simp
    ·rw[R,ai,<-jk];exact aEb _ (by omega)
  ·by_cases X:xs.length+ys.length<=cap
   ·
    have S:=bG M;have lf:B.length+xs.length*e.n+D.length<=(B++(cs++G)).length:=by
     have:(xs.length+ys.length)*e.n<=cap*e.n:=aEb _ X;rw[jk] at this;simp only[cM];omega
    have I:=Cm (P:=F.P) (w:=w) (tt:=ty) (cap:=cap) (c:=c) hU hS L (by exact R) P4 X1 X lf;have e1:(B++(cs++G)).take (B.length+xs.length*e.n)=B++cs:=by
     rw[<-dt,<-S,<-cM];exact aGz
    have e2:(B++(cs++G)).drop (B.length+xs.length*e.n+D.length)=G.drop D.length:=by
     rw[<-dt,<-S,<-cM,aH1];simp
    rw[e1,e2] at I;refine fin _ _ (by rw[A];exact I) (by rw[A];exact J5.setRow w g _) (.inl ⟨_,_,_,rfl⟩) (λb' h=>?_) (λC ρ' E=>?_)
    ·rw[A];simp only[E2,W6] at h ⊢;subst h;exact⟨.inl rfl,by have:=(r8.of_heap L).lt;simpa[World.setRow] using this⟩
    ·refine .inr ⟨g,cap,B,cs++D,G.drop D.length,by simp[LV.of],?_,ae C _ cs E M,by simpa using X,?_,by simp;omega⟩
     ·have:=setRow_heap w g _ (B++cs++D++G.drop D.length).toArray T _ L;rw[this];simp
     ·have:(xs.length+ys.length)*e.n<=cap*e.n:=aEb _ X;rw[jk] at this;simp only[cM,mr];omega
   ·
    have S:=bG M;have ap:r8 w g B.length cs:=by have:=(r8.of_heap L).sub;simpa using this
    have I:=run_append_grow (P:=F.P) w U ty T ti z (oB hU) (uT hI) hz ⟨g,B.length,none⟩ xs.length cap cs (by rw[ac];exact S) ap.cell ⟨b,ak,none⟩ ys.length c D (by rw[ac];exact R) P4 (by omega) (by omega) (growslice_fits (by omega) (by
     have:(xs.length+ys.length)*ti.bytes<=4294967296*4096:=aGh ab cx
     omega))
    have xp:=grownCap_ge w (xs.length+ys.length) cap T;refine fin _ _ (by rw[A];exact I) (J5.alloc _ _ _) (.inl ⟨_,_,_,rfl⟩) (λb' h=>?_) (λC ρ' E=>?_)
    ·simp only[E2,W6] at h;subst h;exact⟨.inr (gC _),by simp⟩
    ·refine .inr ⟨w.heap.size,grownCap w (xs.length+ys.length) cap T,[],cs++D,(Builtin.zeroCells z.cells (grownCap w (xs.length+ys.length) cap T - (xs.length+ys.length))).toList,by simp[LV.of],?_,ae C _ cs E M,by simpa using xp,?_,by simp;omega⟩
     ·rw[show w.heap.size=w.drew.heap.size from rfl,heap_alloc_new];have:cs.toArray++D.toArray++Builtin.zeroCells z.cells (grownCap w (xs.length+ys.length) cap T - (xs.length+ys.length))=
        ([]++((cs++D)++(Builtin.zeroCells z.cells (grownCap w (xs.length+ys.length) cap T - (xs.length+ys.length))).toList)).toArray:=by
       apply Array.ext';simp
      rw[this]
     ·rw[cM,S,R,ai,<-jk,<-jk];exact aEb _ (by omega)
end
theorem Hq:∀(vs:List aA4) (k off:Nat) (cs:Array aA4),off+k+vs.length<=cs.size->
  ((vs.zipIdx k).foldl (λcs (x:aA4×Nat)=>cs.setIfInBounds (off+x.2) x.1) cs).toList=cs.toList.take (off+k)++vs++cs.toList.drop (off+k+vs.length)
 | [],k,off,cs,_=>by simp
 |v::vs,k,off,cs,h=>by
  simp only[aG0,xz];rw[Hq vs (k+1) off _ (by simp at h ⊢;omega)];have u:off+k<cs.toList.length:=by simp at h ⊢;omega
  simp only[Array.toList_setIfInBounds];have A:off+(k+1)=off+k+1:=by omega
  rw[A,List.take_set,List.drop_set_of_lt (by omega)];have B:(cs.toList.take (off+k+1)).set (off+k) v=cs.toList.take (off+k)++[v]:=by
   rw[List.take_succ_eq_append_getElem u,List.set_append_right _ _ (by rw[Z1];omega)];have:off+k - (cs.toList.take (off+k)).length=0:=(by rw[Z1];omega);rw[this];rfl
  rw[B];simp only[qf,dt,aG8];congr 3;omega
theorem Bq{place:Nat->Option (Nat×Nat)}{cells:Array aA4}{i off n:Nat}{v:aA4}{rest:List (Nat×aA4)}{a c e:List aA4}(hp:place i=some (off,n))(hn:v.cells.size=n)(hc:cells.toList=a++(c++e))(ha:a.length=off)(hl:c.length=n):Instr.fill place cells ((i,v)::rest)=Instr.fill place (a++(v.cells.toList++e)).toArray rest:=by
 have A:cells.size=a.length+(c.length+e.length):=by rw[<-rk,hc];simp
 have u:¬(v.cells.size≠n || decide (off+v.cells.size>cells.size))=true:=by
  simp only[aGd,aGj,not_or];omega
 simp only[Instr.fill,hp];rw[nS u];congr 1;apply Array.ext';have:=Hq v.cells.toList 0 off cells (by simp;omega);simp only[aHq] at this
 grind [Array.toList_zipIdx,List.take_left,List.append_assoc,List.drop_left]
section
variable {d:Option Tmp}{x y:aAp}
def Qu(l:List Slot)(p q:Nat)(new:List Slot):List Slot:=l.take p++(new++l.drop (p+q))
def IZ(l:List Slot):Nat:=(l.map Slot.sz).sum
theorem Jd{ρ:Nat->LV}{S:Nat->Prop}{w:aAf}:∀{l:List Slot} {cs:List aA4},aL ρ S w l cs->cs.length=IZ l:=by
 intro l
 induction l with
 |nil=>simp[aL,IZ]
 |cons t l B=>
  intro cs h;obtain⟨c,d,rfl,u,A⟩:=h
  grind [List.length_append,mG,IZ]
theorem EF{ρ:Nat->LV}{S:Nat->Prop}{w:aAf}:∀{l:List Slot} {cs:List aA4},l.all Slot.plain=true->aL ρ S w l cs->∀u∈cs,u.oneCell'=true:=by
 intro l
 induction l with
 |nil=>simp[aL]
 |cons t l E=>
  intro cs B h u A;obtain⟨c,d,rfl,C,D⟩:=h;simp only[List.all_cons,bm] at B;rcases oq.1 A with A | A
  ·exact Dw C u A (λe=>by subst e;cases B.1)
  grind
theorem Kj{ρ:Nat->LV}{S:Nat->Prop}{w:aAf}{l new:List Slot}{p q off n:Nat}{cs:List aA4}(h1:Nat.beq (IZ (l.take p)) off=true)(h2:Nat.beq (IZ ((l.drop p).take q)) n=true)(h:aL ρ S w l cs):∃a c d,cs=a++(c++d)/\a.length=off/\c.length=n/\∀c',aL ρ S w new c'->aL ρ S w (Qu l p q new) (a++(c'++d)):=by
 replace h1:=gP h1;replace h2:=gP h2;rw[<-sw p l,wJ] at h;obtain⟨a,e,rfl,u,A⟩:=h;rw[<-sw q (l.drop p),wJ,aHr] at A;obtain⟨c,d,rfl,C,D⟩:=A;refine⟨a,c,d,rfl,by rw[Jd u,h1],by rw[Jd C,h2],λc' B=>?_⟩;unfold Qu;rw[wJ];exact⟨a,c'++d,rfl,u,wJ.2 ⟨c',d,rfl,B,D⟩⟩
inductive H6 (O:AS) (pl:Array (Nat×Nat)):List Slot->List (Nat×aAp)->List Slot->Prop
 |nil {l:List Slot}:H6 O pl l [] l
 |cons {l l':List Slot} {i off n:Nat} {x:aAp} {s s0:Slot} {rest:List (Nat×aAp)}:pl[i]? =some (off,n)->Arg O false x s->s.plain=true->s.sz=n->jJ l off=some s0->s0.sz=n->H6 O pl (jK l off s) rest l'->H6 O pl l ((i,x)::rest) l'
 |agg {l l' new:List Slot} {i off n:Nat} {x:aAp} {rest:List (Nat×aAp)} (p q:Nat):pl[i]? =some (off,n)->aV O.g x=some (.agg new)->new.all Slot.plain=true->Nat.beq (IZ new) n=true->Nat.beq (IZ (l.take p)) off=true->Nat.beq (IZ ((l.drop p).take q)) n=true->H6 O pl (Qu l p q new) rest l'->H6 O pl l ((i,x)::rest) l'
theorem H6.spec{pl:Array (Nat×Nat)}{l l':List Slot}{ps:List (Nat×aAp)}(h:H6 O pl l ps l'){ρ S a w}{ys:Array aAp}(zm:∀x∈ps.map (·.2),x∈ys)(K:M4 O ys ρ S a w):∀cs:List aA4,aL ρ S w l cs->∃ds:List aA4,Instr.fill (pl[·]?) cs.toArray (ps.map λq=>(q.1,a.eval q.2))=some ds.toArray/\aL ρ S w l' ds:=by
 induction h with
 |nil=>intro cs h;exact⟨cs,rfl,h⟩
 |cons N P X B Q R _ T=>
  rename_i l l' i ab n x s s0 ac _;intro cs D
  have A:=P ρ S a w ⟨K.low,λy u s h=>K.slot y (zm y (by
   have:y=x:=by simpa using u
   subst this;simp)) s h,λy u s h=>K.U4 y (zm y (by
    have:y=x:=by simpa using u
    subst this;simp)) s h⟩
  simp only[mu,M5] at A;have C:=pV X A;obtain⟨E,c,F,rfl,G,k1,I⟩:=uD Q D;obtain⟨ds,L,M⟩:=T (λy u=>zm y (by simp only[V0,sK];exact .inr u)) _ (I s _ C);refine⟨ds,?_,M⟩;rw[V0,Bq (a:=E) (c:=c) (e:=F) N (by have:=mG C;simp only[rk] at this;rw[this];exact B) (by simp) G (by rw[mG k1];exact R)];exact L
 |agg p q N P X B Q R _ T=>
  rename_i l l' ad i ab n x ac _;intro cs D;replace B:=gP B;have A:=K.slot x (zm x (by simp)) _ P;simp only[Slot.ok] at A;obtain⟨c',U,V⟩:=A;obtain⟨E,c,F,rfl,G,C,I⟩:=Kj Q R D;obtain⟨ds,L,M⟩:=T (λy u=>zm y (by simp only[V0,sK];exact .inr u)) _ (I c' V);refine⟨ds,?_,M⟩;have D6:(a.eval x).cells.toList=c':=by rw[U];simp[Value.cells]
  rw[V0,Bq (a:=E) (c:=c) (e:=F) N (by rw[U];simp[Value.cells,Jd V,B]) (by simp) G C,D6];exact L
theorem dP{T:aAg}{pl:Array (Nat×Nat)}{zs:List aA4}{ps:List (Nat×aAp)}{l l':List Slot}(hB:∀parts,F.P.built T parts=Instr.fill (pl[·]?) zs.toArray parts)(hz:Zr zs l)(hp:H6 O pl l ps l'):JO F ⟨d,.build T ps.toArray,ty,p,af,gd⟩ O (.agg l') []:=by
 intro ρ S a w K;obtain⟨u,A,B⟩:=hp.spec (by simp[Op.operands]) K zs (hz ρ S w);refine j6.value (v:= .agg u.toArray) ?_ (y9.same (by grind [Slot.ok]))
 simp_all [run_build,execOp,aGp]
inductive N0 (O:AS) {α:Type} (e:Fu α):Nat->List (Nat×aAp)->List α->Prop
 |nil {k:Nat}:N0 O e k [] []
 |cons {k:Nat} {x:aAp} {z:α} {ps:List (Nat×aAp)} {zs:List α}:Arg O false x (.v e z)->N0 O e (k+1) ps zs->N0 O e k ((k,x)::ps) (z::zs)
theorem N0.spec{α:Type}{e:Fu α}{k:Nat}{ps:List (Nat×aAp)}{zs:List α}(h:N0 O e k ps zs){ρ S a w}{ys:Array aAp}(zm:∀x∈ps.map (·.2),x∈ys)(K:M4 O ys ρ S a w):∀pre rest:List aA4,pre.length=k*e.n->rest.length=ps.length*e.n->∃ds:List aA4,Instr.fill (λi=>some (i*e.n,e.n)) (pre++rest).toArray (ps.map λq=>(q.1,a.eval q.2))=some (pre++ds).toArray/\e.H8 zs S w ds:=by
 induction h with
 |nil=>intro pre rest D E;simp at E;subst E;exact⟨[],rfl,rfl⟩
 |cons D _ M=>
  rename_i k x z ps zs _;intro pre rest F G
  have C:=D ρ S a w ⟨K.low,λy u s h=>K.slot y (zm y (by
   have:y=x:=by simpa using u
   subst this;simp)) s h,λy u s h=>K.U4 y (zm y (by
    have:y=x:=by simpa using u
    subst this;simp)) s h⟩
  simp only[mu,M5] at C;have A:=pV (s:= .v e z) rfl C;simp only[Slot.I2] at A;have B:=e.len A;simp only[qf,jk,aGs] at G;obtain⟨ds,I,L⟩:=M (λy u=>zm y (by simp only[V0,sK];exact .inr u)) (pre++(a.eval x).cells.toList) (rest.drop e.n) (by rw[cM,F,B,jk,aGs]) (by rw[mr];omega);refine⟨(a.eval x).cells.toList++ds,?_,⟨_,_,rfl,A,L⟩⟩;rw[V0,Bq (a:=pre) (c:=rest.take e.n) (e:=rest.drop e.n) rfl (by simp only[rk] at B;exact B) (by simp) F (by rw[Z1];omega)];simpa[dt] using I
theorem QO{P:aA5}{w:aAf}{U E:aAg}{n len:Nat}{z:aA4}{parts:Array (Nat×aA4)}{R:List aA4->Prop}(hU:∀w,(underlying U).run P w= .ok (.slice E) w)(hS:∀w,(sizeOf E).run P w= .ok n w)(hz:∀w,(zeroValue E).run P w= .ok z w)(hle:len*n<=16777216)(hf:∀rest:List aA4,rest.length=len*n->∃ds:List aA4,Instr.fill (λi=>some (i*n,n)) rest.toArray parts.toList=some ds.toArray/\R ds):∃ds:List aA4,R ds/\(Instr.buildSlice U len parts).run P w= .ok (.slice (some ⟨w.heap.size,0,none⟩) len len) (w.alloc (.cells ds.toArray E)):=by
 have D:¬(16777216<len*n):=by omega
 have F:∀B:Array aA4,∃ds:List aA4,R ds/\Instr.fill (λi=>some (i*n,n)) ((Array.range (len*n)).map (B[·% B.size]!)) parts.toList=some ds.toArray:=by
  intro B;obtain⟨ds,C,u⟩:=hf ((Array.range (len*n)).map (B[·% B.size]!)).toList (by simp);exact⟨ds,u,by rw[<-C]⟩
 obtain⟨ds,C,u⟩:=F (if len*n=0 then #[] else z.cells);refine⟨ds,C,?_⟩;unfold Instr.buildSlice;simp only[Sem.run_bind,hU,hS,Result.andThen_ok];rw[nS (by simpa using D)];by_cases A:len*n=0
 ·rw[sM A] at u;simp only[Sem.run_bind,Sem.run_pure,Result.andThen_ok,A,K4];rw[A] at u;rw[u];simp[newRow]
 ·rw[nS A] at u;simp only[Sem.run_bind,Sem.run_pure,Result.andThen_ok,A,M5,hz];rw[u];simp[newRow]
theorem Au(w:aAf)(ds:List aA4)(E:aAg):r8 (w.alloc (.cells ds.toArray E)) w.heap.size 0 ds:=r8.of_heap (T:=E) (fr:=(0,0)) (heap_alloc_new _ _)
theorem Qv{α:Type}{e:Fu α}{U E:aAg}{len:Nat}{z:aA4}{ps:List (Nat×aAp)}{zs:List α}{ρ S a w}(hU:∀w,(underlying U).run F.P w= .ok (.slice E) w)(hS:∀w,(sizeOf E).run F.P w= .ok e.n w)(hz:∀w,(zeroValue E).run F.P w= .ok z w)(hle:Nat.ble (len*e.n) 16777216=true)(hl:ps.length=len)(he:N0 O e 0 ps zs)(K:M4 O (Op.buildSlice U len ps.toArray).operands ρ S a w):∃ds:List aA4,e.H8 zs S w ds/\(execOp a.eval ⟨d,.buildSlice U len ps.toArray,ty,p,af,gd⟩).run F.P w= .ok (.value (.slice (some ⟨w.heap.size,0,none⟩) len len)) (w.alloc (.cells ds.toArray E)):=by
 obtain⟨ds,u,A⟩:=QO (P:=F.P) (w:=w) (U:=U) (len:=len) hU hS hz (gQ hle) (λB C=>by
  obtain⟨ds,u,A⟩:=he.spec (by simp[Op.operands]) K [] B (by simp) (by grind)
  exact⟨ds,by simpa using u,A⟩)
 refine⟨ds,u,?_⟩
 simp_all [execOp,aGp]
theorem rZ{α:Type}{e:Fu α}{U E:aAg}{len:Nat}{z:aA4}{ps:List (Nat×aAp)}{zs:List α}(hU:∀w,(underlying U).run F.P w= .ok (.slice E) w)(hS:∀w,(sizeOf E).run F.P w= .ok e.n w)(hz:∀w,(zeroValue E).run F.P w= .ok z w)(hle:Nat.ble (len*e.n) 16777216=true)(hl:ps.length=len)(U1:zs.length=len)(hb:Nat.ble len 16777216=true)(he:N0 O e 0 ps zs):JO F ⟨d,.buildSlice U len ps.toArray,ty,p,af,gd⟩ O (.v (Fu.sl e) zs) []:=by
 intro ρ S a w K;obtain⟨u,C,D⟩:=Qv (d:=d) (ty:=ty) (p:=p) (af:=af) (gd:=gd) hU hS hz hle hl he K;have A:=gO w (.cells u.toArray E);have B:Ext S (Un S ρ []) w (w.alloc (.cells u.toArray E)):=qL A λk _ h=>by
  rcases h with h |⟨i,G,h,_⟩<;>grind [aF]
 refine j6.value D ⟨ρ,λ_ _=>rfl,A,?_,⟨λ_ _ h=>by simp[aF] at h,λ_ _ _ h=>by simp[aF] at h,λ_ _ _ _ _ h=>by simp[aF] at h⟩⟩;have hb:=gQ hb;refine lY.2 ⟨_,len,by rw[U1],⟨by omega,by omega⟩,.inr ⟨w.heap.size,0,u,rfl,by simp,?_,Au w u E,Fu.q8 C B⟩⟩;rintro (h |⟨i,G,h,_⟩)
 ·have:=K.low _ h;omega
 ·simp[aF] at h
theorem BF{α:Type}{e:Fu α}{U E:aAg}{len:Nat}{z:aA4}{ps:List (Nat×aAp)}{zs:List α}(i:Nat)(hU:∀w,(underlying U).run F.P w= .ok (.slice E) w)(hS:∀w,(sizeOf E).run F.P w= .ok e.n w)(hz:∀w,(zeroValue E).run F.P w= .ok z w)(hle:Nat.ble (len*e.n) 16777216=true)(hl:ps.length=len)(U1:zs.length=len)(hb:Nat.ble len 16777216=true)(he:N0 O e 0 ps zs):JO F ⟨d,.buildSlice U len ps.toArray,ty,p,af,gd⟩ O (.ref i) [(i,.arr E e zs)]:=by
 intro ρ S a w K;obtain⟨A,B,C⟩:=Qv (d:=d) (ty:=ty) (p:=p) (af:=af) (gd:=gd) hU hS hz hle hl he K;have hb:=gQ hb;refine j6.value C (wK (.slice (some ⟨w.heap.size,0,none⟩) len len) (gO _ _) rfl ?_ ?_ ?_)
 ·simp[E2,W6,gC]
 ·intro u ρ' h _;refine .inr ⟨w.heap.size,len,[],A,[],by rw[U1];rfl,?_,Fu.q8 B (Qr (gO _ _) h),by omega,?_,by omega⟩<;>grind [heap_alloc_new,bG]
 ·intro u ρ' _ hi _;simp only[Slot.ok];exact⟨by rw[hi];exact .inl ⟨_,_,_,rfl⟩,hi.symm⟩
def mk{α:Type}(n:Int)(z:α):Option (List α):=if 0<=n/\n<=4294967296 then some (List.replicate n.toNat z) else none
theorem Qw{α:Type}{n:Int}{z:α}{zs:List α}(h:mk n z=some zs):0<=n/\n<=4294967296/\zs=List.replicate n.toNat z:=by
 grind [mk]
theorem To{α:Type}{e:Fu α}{z:α}{zc:Array aA4}(hz:∀S w,e.ok z S w zc.toList)(m:Nat)(S:Nat->Prop)(w:aAf):e.H8 (List.replicate m z) S w (madeCells zc (m*e.n)).toList:=by
 have E:zc.size=e.n:=by have:=e.len (hz S w);simpa using this
 have B:(madeCells zc (m*e.n)).toList=(List.replicate m zc.toList).flatten:=by
  induction m with
  |zero=>simp[madeCells,Array.range_zero']
  |succ m A=>
   rw[List.replicate_succ',List.flatten_append,<-A];apply aF1;intro i;simp only[madeCells,Array.toList_map,List.getElem?_append,ze,sv,rk,Array.size_range,aH0];by_cases C:i<m*e.n
   ·have u:i<(m+1)*e.n:=(by rw[jk];omega);simp[C,u]
   ·rw[nS C];by_cases u:i<(m+1)*e.n
    ·have D:i - m*e.n<zc.size:=(by rw[jk,aGs] at u;omega);have F:i % zc.size=i - m*e.n:=by
      have I:zc.size*m=m*e.n:=(by rw[E,aH8 e.n m]);have G:i % zc.size=((i - m*e.n)+zc.size*m) % zc.size:=(by congr 1;omega);rw[G,Nat.add_mul_mod_self_left,aB4 D]
     simp[u,F,D]
    grind
 rw[B];clear B
 induction m with
 |zero=>rfl
 |succ m A=>rw[List.replicate_succ,List.replicate_succ,aG9];exact⟨_,_,rfl,hz S w,A⟩
theorem JB{α:Type}{e:Fu α}{z:α}{zs:List α}{U E:aAg}{ti:TypeInfo}{zv:aA4}{k k':aA7}{n:Int}{ρ S a w}(hm:mk n z=some zs)(hx:aV O.g x=some (.v (Fu.int k) n))(hy:aV O.g y=some (.v (Fu.int k') n))(hU:∀w,(underlying U).run F.P w= .ok (.slice E) w)(hI:∀w,(typeInfo E).run F.P w= .ok ti w)(hS:∀w,(sizeOf E).run F.P w= .ok e.n w)(hz:ti.zero=some zv)(cx:Nat.ble ti.bytes 4096=true)(K:M4 O (Op.makeSlice U x y).operands ρ S a w):(execOp a.eval ⟨d,.makeSlice U x y,ty,p,af,gd⟩).run F.P w= .ok (.value (.slice (some ⟨w.heap.size,0,none⟩) n.toNat n.toNat)) (w.alloc (.cells (madeCells zv.cells (n.toNat*e.n)).toList.toArray E)):=by
 obtain⟨u,A,rfl⟩:=Qw hm;have hx:=(dC K (by simp[Op.operands]) hx).1;have hy:=(dC K (by simp[Op.operands]) hy).1;have cx:=gQ cx;have B:=Jc hI hS
 have:=run_make w U E ti zv (oB hU) (uT hI) hz k k' n n u (aG4 _) (by
  have:(ti.bytes:Int)*n<=4096*4294967296:=Int.mul_le_mul (by omega) A u (by omega)
  omega) (by omega)
 simp_all [execOp]
theorem aBl{α:Type}{e:Fu α}{z:α}{zs:List α}{U E:aAg}{ti:TypeInfo}{zv:aA4}{k k':aA7}{n:Int}(hm:Sw.mk n z=some zs)(hx:aV O.g x=some (.v (Fu.int k) n))(hy:aV O.g y=some (.v (Fu.int k') n))(hU:∀w,(underlying U).run F.P w= .ok (.slice E) w)(hI:∀w,(typeInfo E).run F.P w= .ok ti w)(hS:∀w,(sizeOf E).run F.P w= .ok e.n w)(hz:ti.zero=some zv)(cx:Nat.ble ti.bytes 4096=true)(yj:∀S w,e.ok z S w zv.cells.toList):JO F ⟨d,.makeSlice U x y,ty,p,af,gd⟩ O (.v (Fu.sl e) zs) []:=by
 intro ρ S a w K;have u:=JB (d:=d) (ty:=ty) (p:=p) (af:=af) (gd:=gd) hm hx hy hU hI hS hz cx K;obtain⟨B,C,rfl⟩:=Qw hm;have A:=gO w (.cells (madeCells zv.cells (n.toNat*e.n)).toList.toArray E);refine j6.value u ⟨ρ,λ_ _=>rfl,A,?_,⟨λ_ _ h=>by simp[aF] at h,λ_ _ _ h=>by simp[aF] at h,λ_ _ _ _ _ h=>by simp[aF] at h⟩⟩;refine lY.2 ⟨_,n.toNat,by simp,(by grind),.inr ⟨w.heap.size,0,_,rfl,by simp,?_,Au w _ E,To yj _ _ _⟩⟩;rintro (h |⟨i,D,h,_⟩)
 ·have:=K.low _ h;omega
 ·simp[aF] at h
theorem JC{α:Type}{e:Fu α}{z:α}{zs:List α}{U E:aAg}{ti:TypeInfo}{zv:aA4}{k k':aA7}{n:Int}(i:Nat)(hm:Sw.mk n z=some zs)(hx:aV O.g x=some (.v (Fu.int k) n))(hy:aV O.g y=some (.v (Fu.int k') n))(hU:∀w,(underlying U).run F.P w= .ok (.slice E) w)(hI:∀w,(typeInfo E).run F.P w= .ok ti w)(hS:∀w,(sizeOf E).run F.P w= .ok e.n w)(hz:ti.zero=some zv)(cx:Nat.ble ti.bytes 4096=true)(yj:∀S w,e.ok z S w zv.cells.toList):JO F ⟨d,.makeSlice U x y,ty,p,af,gd⟩ O (.ref i) [(i,.arr E e zs)]:=by
 intro ρ S a w K;have u:=JB (d:=d) (ty:=ty) (p:=p) (af:=af) (gd:=gd) hm hx hy hU hI hS hz cx K;obtain⟨B,C,rfl⟩:=Qw hm;refine j6.value u (wK (.slice (some ⟨w.heap.size,0,none⟩) n.toNat n.toNat) (gO _ _) rfl ?_ ?_ ?_)
 ·simp[E2,W6,gC]
 ·intro A ρ' h _;refine .inr ⟨w.heap.size,n.toNat,[],(madeCells zv.cells (n.toNat*e.n)).toList,[],by simp[LV.of],?_,To yj _ _ _,by simp,?_,by simp;omega⟩
  ·rw[heap_alloc_new];simp
  ·simp[size_madeCells]
 ·intro A ρ' _ hi _;simp only[Slot.ok];exact⟨by rw[hi];exact .inl ⟨_,_,_,rfl⟩,hi.symm⟩
end
def oz{α:Type}(n:Nat)(P:aA5)(T:aAg)(e:Fu α):Prop:=∀d,n<=d->∀(w:aAf) (S S':Nat->Prop) (w1 w2:aAf) (x y:α) (cs ds:List aA4),e.ok x S w1 cs->e.ok y S' w2 ds->∃r,(Op.equalIn d T (e.pk cs) (e.pk ds)).run P w= .ok r w/\(r=true↔x=y)
theorem oz.int{P:aA5}{T:aAg}{k k':aA7}(h:P.underlying T=some (.int k')):oz 1 P T (Fu.int k):=by
 intro d hd w S B C D x y cs E u A;obtain⟨d,rfl⟩:∃d',d=d'+1:=⟨d - 1,by omega⟩;rw[u.1,A.1];exact⟨x==y,run_equalIn_int w d T k k' x y h,by simp⟩
theorem Xv{α:Type}{P:aA5}{e:Fu α}{x:α}{S w w0}{a c b:List aA4}{T:aAg}{off:Nat}(ho:e.ok x S w0 c)(ha:a.length=off)(hA:∀w,(isAgg T).run P w= .ok e.agg w)(hS:∀w,(sizeOf T).run P w= .ok e.n w):(part T (a++(c++b)).toArray off).run P w= .ok (e.pk c) w:=by
 have u:=e.len ho;unfold part;simp only[Sem.run_bind,hA,Result.andThen_ok];cases db:e.agg with
 |true=>
  simp only[K4,Sem.run_bind,hS,Result.andThen_ok,Sem.run_pure,Fu.pk,db]
  grind
 |false=>
  rw[e.one db] at u;obtain⟨v,rfl⟩:=aEk.1 u
  simp_all [mu,M5,Sem.run_pure,Fu.pk]
theorem Oa{α:Type}{n d:Nat}{P:aA5}{E:aAg}{e:Fu α}(hd:n<=d)(he:oz n P E e)(hA:∀w,(isAgg E).run P w= .ok e.agg w)(hS:∀w,(sizeOf E).run P w= .ok e.n w){S S':Nat->Prop}{w1 w2:aAf}:
  ∀(xs ys:List α) (k:Nat) (pre aKr cs ds:List aA4) (w:aAf),xs.length=ys.length->pre.length=k*e.n->aKr.length=k*e.n->e.H8 xs S w1 cs->e.H8 ys S' w2 ds->
   ∃r,(Op.eqItems d E e.n (pre++cs).toArray (aKr++ds).toArray (List.range' k xs.length)).run P w= .ok r w/\(r=true↔xs=ys)
 | [],ys,k,pre,aKr,cs,ds,w,u,_,_,_,_=>by
  have:ys=[]:=ya (by simpa using u.symm)
  simp_all [Op.eqItems]
 |x::xs,[],k,pre,aKr,cs,ds,w,u,_,_,_,_=>by simp at u
 |x::xs,y::ys,k,pre,aKr,cs,ds,w,u,C,D,⟨c,G,I,A,K⟩,⟨q,L,M,B,N⟩=>by
  subst I;subst M;obtain⟨r,F,O⟩:=he d hd w S S' w1 w2 x y c q A B;obtain⟨Q,R,T⟩:=Oa hd he hA hS xs ys (k+1) (pre++c) (aKr++q) G L w (by simpa using u) (by rw[cM,C,e.len A,jk,aGs]) (by rw[cM,D,e.len B,jk,aGs]) K N;simp only[qf,List.range'_succ,Op.eqItems,Sem.run_bind,Xv (P:=P) (w:=w) A C hA hS,Xv (P:=P) (w:=w) B D hA hS,Result.andThen_ok,F];cases r<;>simp_all
theorem oz.arr{α:Type}{n m:Nat}{P:aA5}{T E:aAg}{e:Fu α}(hT:∀w,(underlying T).run P w= .ok (.array m E) w)(hI:∀w,(sizeOf E).run P w= .ok e.n w)(hA:∀w,(isAgg E).run P w= .ok e.agg w)(he:oz n P E e):oz (n+1) P T (Fu.arr m e):=by
 intro d hd w S K L M x y cs A u B;obtain⟨d,rfl⟩:∃d',d=d'+1:=⟨d - 1,by omega⟩;obtain⟨i,C,F⟩:∃i,P.info? E=some i/\i.size=e.n:=by
  have:=hI default;unfold sizeOf typeInfo at this;simp only[Sem.run_bind,run_program,Result.andThen_ok] at this;cases hq:P.info? E<;>simp_all
 have D:P.cellsOf E=e.n:=by unfold Program.cellsOf;rw[C];exact F
 obtain⟨r,G,I⟩:=Oa (d:=d) (by omega) he hA hI x y 0 [] [] cs A w (by rw[u.1,B.1]) (by simp) (by simp) u.2 B.2;refine⟨r,?_,I⟩;have:=run_equalIn_array (w:=w) d cs.toArray A.toArray (oB hT) C;simp only[Fu.pk,show (Fu.arr m e).agg=true from rfl,K4];rw[this,D,List.range_eq_range',<-u.1];simpa using G
section
variable {d:Option Tmp}{x y:aAp}
theorem BG{α:Type}[DecidableEq α]{n:Nat}{e:Fu α}{o:BinOp}{T T':aAg}{z z':α}{b:Bool}{ρ S a w}(ho:(o= .eql/\b=decide (z=z'))\/(o= .neq/\b= !decide (z=z')))(he:oz n F.P T e)(hn:Nat.ble n 10000=true)(ha:e.agg=true)(hg:F.P.eqGuardType F.P.depth T=false)(hx:aV O.g x=some (.v e z))(hy:aV O.g y=some (.v e z'))(K:M4 O (Op.binOp o T x y T').operands ρ S a w):(execOp a.eval ⟨d,.binOp o T x y T',ty,p,af,gd⟩).run F.P w= .ok (.value (.bool b)) w:=by
 have C:=K.slot x (by simp[Op.operands]) _ hx;have D:=K.slot y (by simp[Op.operands]) _ hy;obtain⟨cs,G,u⟩:=C;obtain⟨I,L,A⟩:=D;obtain⟨r,B,M⟩:=he 10000 (gQ hn) w S S w w z z' cs I G L;have E:r=decide (z=z'):=by
  grind
 simp only[Fu.pk,ha,K4] at u A B;refine Ip (r:=r) (by rw[E];exact ho) u A (by intros;simp) (by intros;simp) (by intros;simp) (by intros;simp) ?_ B
 grind [run_eqGuard_agg]
theorem XK{α:Type}[DecidableEq α]{n:Nat}{e:Fu α}{T T':aAg}{z z':α}(he:oz n F.P T e)(hn:Nat.ble n 10000=true)(ha:e.agg=true)(hg:F.P.eqGuardType F.P.depth T=false)(hx:aV O.g x=some (.v e z))(hy:aV O.g y=some (.v e z')):JO F ⟨d,.binOp .eql T x y T',ty,p,af,gd⟩ O (.v Fu.bool (decide (z=z'))) []:=λρ S _ w K=>j6.value (w':=w) (BG (.inl ⟨rfl,rfl⟩) he hn ha hg hx hy K) (y9.same (iA _ ρ S w))
theorem JD{α:Type}[DecidableEq α]{n:Nat}{e:Fu α}{T T':aAg}{z z':α}(he:oz n F.P T e)(hn:Nat.ble n 10000=true)(ha:e.agg=true)(hg:F.P.eqGuardType F.P.depth T=false)(hx:aV O.g x=some (.v e z))(hy:aV O.g y=some (.v e z')):JO F ⟨d,.binOp .neq T x y T',ty,p,af,gd⟩ O (.v Fu.bool (!decide (z=z'))) []:=λρ S _ w K=>j6.value (w':=w) (BG (.inr ⟨rfl,rfl⟩) he hn ha hg hx hy K) (y9.same (iA _ ρ S w))
end
def bR:Nat:=1125899906842624
inductive Ex (α β:Type) where
 |u9 (x:α)
 |ret (r:β)
def lp{α β γ:Type}(step:α->Option (Step α (Ex β γ)))(x:α)(k:β->Option γ):Option γ:=match loop step bR x with | none=>none | some (.u9 y)=>k y | some (.ret z)=>some z
def jp{β γ:Type}(k:β->Option γ)(body:(β->Option γ)->Option γ):Option γ:=body k
theorem uU{α β γ:Type}{step:α->Option (Step α (Ex β γ))}{x:α}{k:β->Option γ}{r:γ}(h:lp step x k=some r):∃o,loop step bR x=some o/\(∀y,o= .u9 y->k y=some r)/\(∀z,o= .ret z->z=r):=by
 grind [lp]
theorem Dy{β γ:Type}{k:β->Option γ}{body:(β->Option γ)->Option γ}{r:γ}(h:jp k body=some r):∃K,K=k/\body K=some r:=⟨k,rfl,h⟩
theorem Av{α:Type}{c:Bool}{x y:Option α}{r:α}(hc:c=true)(h:(bif c then x else y)=some r):x=some r:=by grind
theorem Aw{α:Type}{c:Bool}{x y:Option α}{r:α}(hc:c=false)(h:(bif c then x else y)=some r):y=some r:=by grind
theorem aC{α β:Type}{x:Option α}{f:α->Option β}{r:β}(h:x.bind f=some r):∃a,x=some a/\f a=some r:=Option.bind_eq_some_iff.1 h
def rn:List (Nat×Nat)->Nat->Nat | [],i=>i | (a,b)::r,i=>bif Nat.beq a i then b else rn r i
section
variable {cs:List aBb}
theorem rV{c:Tmp}{x y:aBb}{b:Bool}(hb:lk O.g c=some (.v Fu.bool b))(hc:b=true)(ht:W F (x::cs) O Q):W F (.cond (.tmp c) x y::cs) O Q:=by
 grind [yT]
theorem tH{c:Tmp}{x y:aBb}{b:Bool}(hb:lk O.g c=some (.v Fu.bool b))(hc:b=false)(ht:W F (y::cs) O Q):W F (.cond (.tmp c) x y::cs) O Q:=by
 grind [yT]
def LB(F:w8)(id:Nat)(σs:α->AS)(σx:β->AS)(o:Ex β γ)(Q:aBd->aBe->aAf->Prop):Step α (Ex β γ)->aBd->aBe->aAf->Prop | .next y,.normal,a,w=>St F (σs y) a w | .next _,_,_,_=>False | .done (.u9 x),.exit i,a,w=>i=id/\(o= .u9 x->St F (σx x) a w) | .done (.u9 _),_,_,_=>False | .done (.ret _),.normal,_,_=>False | .done (.ret z),.exit i,a,w=>i≠id/\(o= .ret z->Q (.exit i) a w) | .done (.ret z),e,a,w=>o= .ret z->Q e a w
theorem Nh{id:Nat}{body:aBb}{σs:α->AS}{step:α->Option (Step α (Ex β γ))}{x:α}{o:Ex β γ}(σx:β->AS)(hm:Sw.loop step bR x=some o)(h0:Sub F O (σs x))(hk:∀y,o= .u9 y->W F cs (σx y) Q)(h:∀y r,step y=some r->W F [body] (σs y) (LB F id σs σx o Q r)):W F (.block id (.loop body)::cs) O Q:=by
 refine fC (XF hm h0 λy r B a w C=>?_);refine wpIn_mono (h y r B a w C) ?_;intro e a w u;cases r with
 |next z=>cases e<;>exact u
 |done b=>
  cases b with
  |u9 z=>
   cases e<;>simp only[LB,LQ,Exit.then,run] at u ⊢;intro A;obtain⟨rfl,u⟩:=u;simp only[Exit.inBlock,K4];exact hk z A.symm a w (u A.symm)
  |ret z=>
   cases e<;>simp[LB,LQ,Exit.then,run] at u ⊢<;>intro A<;>first
    | (obtain⟨D,u⟩:=u;simp only[Exit.inBlock,nS D];exact u A.symm)
    |exact u A.symm
theorem vH{id:Nat}{σs:α->AS}{σx:β->AS}{o:Ex β γ}{y:α}(h:Sub F O (σs y)):W F [] O (LB F id σs σx o Q (.next y)):=λa w u=>h a w u
theorem wM{id:Nat}{σs:α->AS}{σx:β->AS}{o:Ex β γ}{y:β}(h:Sub F O (σx y)):XQ F O (LB F id σs σx o Q (.done (.u9 y))) (.exit id):=λa w u=>⟨rfl,λ_=>h a w u⟩
theorem yX{id:Nat}{σs:α->AS}{σx:β->AS}{o:Ex β γ}{z:γ}(h:o= .ret z->XQ F O Q .ret):XQ F O (LB F id σs σx o Q (.done (.ret z))) .ret:=λa w u A=>h A a w u
theorem Tp{id i:Nat}{σs:α->AS}{σx:β->AS}{o:Ex β γ}{z:γ}(G4:Nat.beq i id=false)(h:o= .ret z->XQ F O Q (.exit i)):XQ F O (LB F id σs σx o Q (.done (.ret z))) (.exit i):=
 λa w u=>⟨λe=>by simp_all,λA=>h A a w u⟩
def JQ(F:w8)(σx:β->AS)(P:β->Prop)(Q:aBd->aBe->aAf->Prop):aBd->aBe->aAf->Prop | .normal,a,w=>∃x,P x/\St F (σx x) a w | e,a,w=>Q e a w
theorem EG{c:Tmp}{x y:aBb}{b:Bool}(σx:β->AS)(P:β->Prop)(hb:lk O.g c=some (.v Fu.bool b))(hk:∀x,P x->W F cs (σx x) Q)(ht:b=true->W F [x] O (JQ F σx P Q))(hf:b=false->W F [y] O (JQ F σx P Q)):W F (.cond (.tmp c) x y::cs) O Q:=by
 refine yT hb (λA a w B=>?_) (λA a w B=>?_)
 ·refine wpIn_mono (ht A a w B) ?_;intro e a w u;cases e<;>first | exact u | (obtain⟨z,C,D⟩:=u;exact hk z C a w D)
 ·refine wpIn_mono (hf A a w B) ?_;intro e a w u;cases e<;>first | exact u | (obtain⟨z,C,D⟩:=u;exact hk z C a w D)
theorem tI{σx:β->AS}{P:β->Prop}{z:β}(hz:P z)(h:Sub F O (σx z)):W F [] O (JQ F σx P Q):=λa w u=>⟨z,hz,h a w u⟩
theorem QP{σx:β->AS}{P:β->Prop}(h:XQ F O Q .ret):XQ F O (JQ F σx P Q) .ret:=h
theorem JE{i:Nat}{σx:β->AS}{P:β->Prop}(h:XQ F O Q (.exit i)):XQ F O (JQ F σx P Q) (.exit i):=h
theorem J.fin{ops:Array aBa}(h:Sub F O O'):J F ops [] O O':=λ_ _ a w u A=>A a w (h a w u)
end
theorem Kk{P:aA5}{N:Nat}{S:Nat->Prop}{w:aAf}:∀k,¬(w8.R ⟨P,N,S,w,λ_=>False,none,[]⟩ k):=λ_ h=>h
section
variable {cs:List aBb}
theorem GK.met{g:List (Nat×Slot)}{o:aBa}{j:Nat}{want:Bool}(t:Tmp){x:Bool}(h:o.guard= .some (j,want))(ht:(ops[j]?).bind (·.dst)= .some t)
  (hx:lk g t= .some (.v Fu.bool x)) (hb:x=want):GK ops g o true:=GK.some t x true h ht hx (by grind)
theorem GK.ye{g:List (Nat×Slot)}{o:aBa}{j:Nat}{want:Bool}(t:Tmp){x:Bool}(h:o.guard= .some (j,want))(ht:(ops[j]?).bind (·.dst)= .some t)
  (hx:lk g t= .some (.v Fu.bool x)) (hb:x= !want):GK ops g o false:=GK.some t x false h ht hx (by grind)
theorem kO{e:aBd}(h:Sub F O O')(k:XQ F O' Q e):XQ F O Q e:=λa w u=>k a w (h a w u)
def BQ(F:w8)(id:Nat)(σx:β->AS)(P:β->Prop)(Q:aBd->aBe->aAf->Prop):aBd->aBe->aAf->Prop | .normal,a,w=>∃x,P x/\St F (σx x) a w | .exit i,a,w=>if i=id then∃x,P x/\St F (σx x) a w else Q (.exit i) a w | e,a,w=>Q e a w
theorem aEj{id:Nat}{body:aBb}(σx:β->AS)(P:β->Prop)(hk:∀x,P x->W F cs (σx x) Q)(h:W F [body] O (BQ F id σx P Q)):W F (.block id body::cs) O Q:=by
 refine fC λa w D=>wpIn_mono (h a w D) ?_;intro e a w u;cases e<;>simp[Exit.then,run,BQ,Exit.inBlock] at u ⊢<;>first
  |omega
  | (obtain⟨z,A,B⟩:=u;exact hk z A a w B)
  | (
    split at u
    ·rename_i C;rw[sM C];obtain⟨z,A,B⟩:=u;exact hk z A a w B
    grind)
theorem QQ{id:Nat}{σx:β->AS}{P:β->Prop}{z:β}(hz:P z)(h:Sub F O (σx z)):W F [] O (BQ F id σx P Q):=λa w u=>⟨z,hz,h a w u⟩
theorem QR{id:Nat}{σx:β->AS}{P:β->Prop}{z:β}(hz:P z)(h:Sub F O (σx z)):XQ F O (BQ F id σx P Q) (.exit id):=λa w u=>by
 simp[BQ,K4];exact⟨z,hz,h a w u⟩
theorem JF{id i:Nat}{σx:β->AS}{P:β->Prop}(G4:Nat.beq i id=false)(h:XQ F O Q (.exit i)):XQ F O (BQ F id σx P Q) (.exit i):=λa w u=>by
 simp[BQ];rw[nS (λe=>by simp_all)];exact h a w u
theorem QS{id:Nat}{σx:β->AS}{P:β->Prop}(h:XQ F O Q .ret):XQ F O (BQ F id σx P Q) .ret:=h
end
section
variable {d:Option Tmp}{x y c:aAp}
theorem VU{b:Bool}(hb:b=true)(hc:aV O.g c=some (.v Fu.bool b))(hx:aV O.g x=some s):JO F ⟨d,.pick c x y,ty,p,af,gd⟩ O s []:=by grind [IT]
theorem JG{b:Bool}(hb:b=false)(hc:aV O.g c=some (.v Fu.bool b))(hy:aV O.g y=some s):JO F ⟨d,.pick c x y,ty,p,af,gd⟩ O s []:=by grind [IU]
def VV(k k':aA7):Bool:=decide (k'.min<=k.min) && decide (k.max<=k'.max)
theorem uV{k:aA7}{n:Int}(h:zY k n):k.wrap n=n:=by
 unfold zY at h;cases k<;>simp[IntKind.min,IntKind.max,IntKind.signed,IntKind.bits] at h<;>simp[IntKind.wrap,IntKind.signed,IntKind.bits]<;>omega
theorem wD{A B:aAg}{da:aA9}{k k':aA7}{n:Int}(ha:∀w,(underlying A).run F.P w= .ok da w)(hb:∀w,(underlying B).run F.P w= .ok (.int k') w)(hx:aV O.g x=some (.v (Fu.int k) n))(hw:VV k k'=true):JO F ⟨d,.convert A B x,ty,p,af,gd⟩ O (.v (Fu.int k') n) []:=by
 intro ρ S a w K;have u:=(dC K (by simp[Op.operands]) hx).2;have h:=Qq ha hb hx ρ S a w K
 grind [uV,VV,zY]
def nz(n:Int):Option Unit:=if n=0 then none else some ()
theorem QT{n:Int}{u:Unit}(h:nz n=some u):n≠0:=by grind [nz]
def nn(n:Int):Option Unit:=if 0<=n then some () else none
theorem QU{n:Int}{u:Unit}(h:nn n=some u):0<=n:=by grind [nn]
theorem Xw{c:Nat}{ρ:Nat->LV}{a:aBe}{w:aAf}(hc:Core F O.d ρ w)(hs:∀t s,lk O.g t=some s->s.ok ρ (Un F.S0 ρ O.d) w (a.tmps.getD t undef)){i off:Nat}{T:aAg}{l:List Slot}(hx:lk O.g c=some (.ptr i off))(he:aF O.d i=some (.box T l pb)):∃b cs,a.tmps.getD c undef= .pointer (some ⟨b,off,none⟩)/\w.heap[b]? =some (.cells cs.toArray T (0,0))/\aL ρ (Un F.S0 ρ O.d) w l cs:=by
 obtain⟨b,cs,_,u,A,B⟩:=yF (x:= .tmp c) (aY hc hs #[.tmp c]) (by simp) hx he;exact⟨b,cs,u,A,B⟩
theorem pX{α:Type}{e:Fu α}{z:α}{T U:aAg}{l:List Slot}{i c:Nat}(hx:lk O.g c=some (.ptr i 0))(he:aF O.d i=some (.box T l pb))(hl:X7 l e z)(hA:∀w,(isAgg U).run F.P w= .ok e.agg w)(hS:∀w,(sizeOf U).run F.P w= .ok e.n w):RV F O (.cell c U) (.v e z):=by
 intro ρ a w hc hs;obtain⟨b,cs,B,C,A⟩:=Xw hc hs hx he;have u:=(hl ρ _ w cs).1 A;refine⟨e.pk cs,?_,by exact⟨cs,u,rfl⟩⟩
 grind [Cu,r8.of_heap,sP,asAddr]
theorem Xx{T U:aAg}{l:List Slot}{i c n:Nat}(hx:lk O.g c=some (.ptr i 0))(he:aF O.d i=some (.box T l pb))(hn:(l.map Slot.sz).sum=n)(hA:∀w,(isAgg U).run F.P w= .ok true w)(hS:∀w,(sizeOf U).run F.P w= .ok n w):RV F O (.cell c U) (.agg l):=by
 intro ρ a w hc hs;obtain⟨b,cs,C,A,u⟩:=Xw hc hs hx he;have B:cs.length=n:=by
  rw[<-hn];clear hn hS hx he A
  induction l generalizing cs with
  |nil=>simp only[aL] at u;simp[u]
  |cons t l G=>
   simp only[aL] at u;obtain⟨c,d,rfl,D,E⟩:=u;rw[cM,mG D,G d E];simp
 refine⟨.agg cs.toArray,?_,by simp only[Slot.ok];exact⟨cs,rfl,u⟩⟩;have:(loadVar U ⟨b,0,none⟩).run F.P w= .ok (.agg cs.toArray) w:=by
  unfold loadVar;simp only[Sem.run_bind,hA,Result.andThen_ok,K4,hS];rw[<-B,run_loadCells_list w _ cs (r8.of_heap A).cell];simp
 simp[sP,C,asAddr,this]
theorem mT{T U:aAg}{l:List Slot}{i c:Nat}(hx:lk O.g c=some (.ptr i 0))(he:aF O.d i=some (.box T l pb))(ho:jJ l 0=some s)(hA:∀w,(isAgg U).run F.P w= .ok s.ag w)(hS:∀w,(sizeOf U).run F.P w= .ok s.sz w):RV F O (.cell c U) s:=by
 intro ρ a w hc hs;obtain⟨b,cs,D,E,G⟩:=Xw hc hs hx he;obtain⟨I,c',L,rfl,K,B,_⟩:=uD ho G;have u:r8 w b I.length c':=by have:=(r8.of_heap E).sub;simpa using this
 have A:=mG B;refine⟨if s.ag then .agg c'.toArray else c'.headD undef,?_,AZ B⟩;have:(loadVar U ⟨b,0,none⟩).run F.P w= .ok (if s.ag then .agg c'.toArray else c'.headD undef) w:=by
  rw[<-K];unfold loadVar;simp only[Sem.run_bind,hA,Result.andThen_ok];cases ha:s.ag with
  |true=>
   simp only[K4,Sem.run_bind,hS,Result.andThen_ok];rw[<-A,run_loadCells_list w _ c' u.cell];simp
  |false=>
   have C:c'.length=1:=by
    rw[A];cases s<;>simp only[Slot.ag,Slot.sz] at ha ⊢;exact Fu.one _ ha
   obtain⟨v,rfl⟩:=aEk.1 C;have:=u.cell 0 v rfl;simp[Addr.add] at this;simp[this]
 simp[sP,D,asAddr,this]
end
def dQ{α β:Type}[DecidableEq α]:List (α×β)->α->Option β | [],_=>none | (a,b)::m,k=>if a=k then some b else dQ m k
def Cv{α β:Type}[DecidableEq α](m:List (α×β))(k:α)(v:β):Option (List (α×β)):=match dQ m k with | none=>some (m++[(k,v)]) | some _=>none
theorem Ob{α β:Type}[DecidableEq α]{m m':List (α×β)}{k:α}{v:β}(h:Cv m k v=some m'):dQ m k=none/\m'=m++[(k,v)]:=by
 grind [Cv]
def C7{α:Type}(n:Nat)(P:aA5)(T:aAg)(e:Fu α):Prop:=∀d,n<=d->∀(em:Bool) (w:aAf) (S:Nat->Prop) (w1:aAf) (x:α) (cs:List aA4),e.ok x S w1 cs->(Instr.checkKey em d T (e.pk cs)).run P w= .ok () w
theorem C7.int{P:aA5}{T:aAg}{k k':aA7}(h:∀w,(underlying T).run P w= .ok (.int k') w):C7 1 P T (Fu.int k):=by
 intro d hd u w S A x cs B;obtain⟨d,rfl⟩:∃d',d=d'+1:=⟨d - 1,by omega⟩;simp[Instr.checkKey,h,Fu.pk,Fu.int]
theorem Kl{α:Type}{n d:Nat}{P:aA5}{E:aAg}{e:Fu α}{em:Bool}(hd:n<=d)(he:C7 n P E e)(hA:∀w,(isAgg E).run P w= .ok e.agg w)(hS:∀w,(sizeOf E).run P w= .ok e.n w){S:Nat->Prop}{w1:aAf}:
  ∀(xs:List α) (k:Nat) (pre cs:List aA4) (w:aAf),pre.length=k*e.n->e.H8 xs S w1 cs->
   (forIn (List.range' k xs.length) PUnit.unit λi (_:PUnit)=>do
    let s<-sizeOf E
    let v<-part E (pre++cs).toArray (i*s)
    Instr.checkKey em d E v
    pure (ForInStep.yield PUnit.unit):Sem PUnit).run P w= .ok () w
 | [],k,pre,cs,w,_,_=>by simp
 |x::xs,k,pre,cs,w,A,⟨c,B,D,u,F⟩=>by
  subst D;have G:=Kl (em:=em) hd he hA hS xs (k+1) (pre++c) B w (by rw[cM,A,e.len u,jk,aGs]) F;have C:=Xv (P:=P) (w:=w) (b:=B) u A hA hS;simp only[qf,List.range'_succ,List.forIn_cons,Sem.run_bind,hS,Result.andThen_ok,C,he d hd em w S w1 x c u]
  simp_all
theorem C7.arr{α:Type}{n m:Nat}{P:aA5}{T E:aAg}{e:Fu α}(hT:∀w,(underlying T).run P w= .ok (.array m E) w)(hS:∀w,(sizeOf E).run P w= .ok e.n w)(hA:∀w,(isAgg E).run P w= .ok e.agg w)(he:C7 n P E e):C7 (n+1) P T (Fu.arr m e):=by
 intro d hd em w S A x cs u;obtain⟨d,rfl⟩:∃d',d=d'+1:=⟨d - 1,by omega⟩;have h:=Kl (em:=em) (d:=d) (by omega) he hA hS x 0 [] cs w (by simp) u.2
 simp_all [Instr.checkKey,Sem.run_bind,Result.andThen_ok,Fu.pk,Fu.arr,K4]
theorem BH{α β:Type}[DecidableEq α]{n:Nat}{P:aA5}{T:aAg}{e:Fu α}{f:Fu β}(hn:n<=10000)(he:oz n P T e){S S':Nat->Prop}{w1 w2:aAf}{k:α}{cs:List aA4}(hk:e.ok k S' w2 cs)(w:aAf):
  ∀(m:List (α×β)) (es:List MapEntry) (i:Nat),Xn e f S w1 m es->∃r,(Instr.findAsking T (e.pk cs) es i).run P w= .ok r w/\(dQ m k=none->r=none)/\(∀b,dQ m k=some b->∃j v,r=some (j,v)/\f.val b S w1 v)
 | [],[],i,_=>⟨none,by simp[Instr.findAsking],λ_=>rfl,λb h=>by simp[dQ] at h⟩
 | (a,b)::m,x::xs,i,⟨⟨D,E,F⟩,G,I⟩=>by
  obtain⟨r,A,B⟩:=he 10000 hn w S' S w2 w1 k a cs D hk E;rw[<-F] at A;have C:(Op.equal T (e.pk cs) x.key).run P w= .ok r w:=A;cases r with
  |true=>
   have u:=B.1 rfl;refine⟨some (i,x.val),by simp[Instr.findAsking,C],λh=>?_,λK h=>?_⟩
   ·simp[dQ,u] at h
   ·simp[dQ,u] at h;subst h;exact⟨i,x.val,rfl,G⟩
  |false=>
   have u:¬a=k:=λh=>by have:=B.2 h.symm;cases this
   obtain⟨r,L,M,N⟩:=BH hn he hk w m xs (i+1) I
   simp_all [Instr.findAsking,dQ]
 | [],_::_,_,h=>h.elim
 |_::_,[],_,h=>h.elim
theorem Gk{α β:Type}[DecidableEq α]{n l:Nat}{E:aAg}{P:aA5}{T:aAg}{e:Fu α}{f:Fu β}(hn:n<=10000)(hT:∀w,(underlying T).run P w= .ok (.array l E) w)(he:oz n P T e){S S':Nat->Prop}{w1 w2:aAf}{k:α}{cs:List aA4}(hk:e.ok k S' w2 cs)(w:aAf)(m:List (α×β))(es:List MapEntry)(h:Xn e f S w1 m es):∃r,(Instr.findKey T (e.pk cs) es).run P w= .ok r w/\(dQ m k=none->r=none)/\(∀b,dQ m k=some b->∃j v,r=some (j,v)/\f.val b S w1 v):=by
 match m,es,h with
 | [],[],_=>exact⟨none,by simp[Instr.findKey,hT,Instr.findNow],λ_=>rfl,λb h=>by grind [dQ]⟩
 |q::m,x::xs,h=>
  obtain⟨r,u,A⟩:=BH hn he hk w (q::m) (x::xs) 0 h
  simp_all [Instr.findKey,Instr.findNow,Instr.sameNow]
section
variable {d:Option Tmp}{x y z:aAp}
theorem Xy{α β:Type}{T:aAg}(i:Nat)(e:Fu α)(f:Fu β):JO F ⟨d,.makeMap T none,ty,p,af,gd⟩ O (.ref i) [(i,.mp e f [])]:=by
 intro ρ S a w K;refine j6.value (w':=w.alloc (.map #[] 0)) (v:= .map (some w.heap.size)) (rfl) ?_;refine wK (.map (some w.heap.size)) (gO _ _) rfl ?_ ?_ ?_
 ·simp[E2,gC]
 ·intro u ρ' h _;exact⟨_,#[],0,rfl,heap_alloc_new _ _,trivial⟩
 ·intro u ρ' _ hi _;exact⟨by rw[hi];exact .inr ⟨_,rfl⟩,hi.symm⟩
theorem EH{α β:Type}[DecidableEq α]{n n' l:Nat}{M KT VT E:aAg}{e:Fu α}{f:Fu β}{m:List (α×β)}{i:Nat}{k:α}{u:β}{zv:aA4}(hx:aV O.g x=some (.ref i))(hd:aF O.d i=some (.mp e f m))(hy:aV O.g y=some (.v e k))(hM:∀w,(underlying M).run F.P w= .ok (.map KT VT) w)(hT:∀w,(underlying KT).run F.P w= .ok (.array l E) w)(he:oz n F.P KT e)(hn:Nat.ble n 10000=true)(hk:C7 n' F.P KT e)(fu:Nat.ble n' 10000=true)(hz:∀w,(zeroValue VT).run F.P w= .ok zv w)(yj:∀S w,f.val u S w zv):JO F ⟨d,.lookup M x y false,ty,p,af,gd⟩ O (.v f ((dQ m k).getD u)) []:=by
 intro ρ S a w K;obtain⟨D,Q,_⟩:=xF K (x:=x) (by simp[Op.operands]) hx hd;obtain⟨b,G,ck,I,R,T⟩:=Q;have A:=K.slot y (by simp[Op.operands]) _ hy;simp only[Slot.ok] at A;obtain⟨cs,A,L⟩:=A;obtain⟨r,N,U,V⟩:=Gk (gQ hn) hT he A w m G.toList T;have B:=hk 10000 (gQ fu) G.isEmpty w S w k cs A;have C:=MapKept.run_getObj_map (P:=F.P) R;cases hm:dQ m k with
 |none=>
  have:=U hm;subst this;refine j6.value (w':=w) (v:=zv) ?_ (y9.same (by simp only[Slot.ok];exact yj _ _));simp[execOp,D,I,L,Instr.lookup,hM,C,B,N,hz]
 |some b'=>
  obtain⟨j,v,rfl,X⟩:=V b' hm;refine j6.value (w':=w) (v:=v) ?_ (y9.same (by simp only[Slot.ok];exact X));simp[execOp,D,I,L,Instr.lookup,hM,C,B,N]
theorem Km{α β:Type}{e:Fu α}{f:Fu β}{S:Nat->Prop}{w:aAf}{k:α}{v:β}{x:MapEntry}(h1:e.val k S w x.key)(h2:f.val v S w x.val):∀{m:List (α×β)} {xs:List MapEntry},Xn e f S w m xs->Xn e f S w (m++[(k,v)]) (xs++[x]) | [],[],_=>⟨h1,h2,trivial⟩| (_,_)::_,_::_,⟨h3,h4,h5⟩=>⟨h3,h4,Km h1 h2 h5⟩| [],_::_,h=>h.elim | _::_,[],h=>h.elim
theorem EI{α β:Type}[DecidableEq α]{n n' l:Nat}{M KT VT E:aAg}{e:Fu α}{f:Fu β}{m m':List (α×β)}{i:Nat}{k:α}{v:β}(hm:Cv m k v=some m')(hx:aV O.g x=some (.ref i))(hd:aF O.d i=some (.mp e f m))(hy:aV O.g y=some (.v e k))(hz:aV O.g z=some (.v f v))(hM:∀w,(underlying M).run F.P w= .ok (.map KT VT) w)(hT:∀w,(underlying KT).run F.P w= .ok (.array l E) w)(he:oz n F.P KT e)(hn:Nat.ble n 10000=true)(hk:C7 n' F.P KT e)(fu:Nat.ble n' 10000=true):JM F ⟨none,.mapUpdate M x y z,ty,p,af,gd⟩ O ⟨O.g,(i,.mp e f m')::O.d⟩:=by
 obtain⟨ab,rfl⟩:=Ob hm;refine lC hd rfl λρ a w V X=>?_;have K:=aY V X (Op.mapUpdate M x y z).operands;obtain⟨h1,h2,_⟩:=xF K (x:=x) (by simp[Op.operands]) hx hd;obtain⟨b,C,A,D,G,N⟩:=h2;have u:=K.slot y (by simp[Op.operands]) _ hy;have I:=K.slot z (by simp[Op.operands]) _ hz;simp only[Slot.ok] at u I;have Q:=u;obtain⟨cs,u,ac⟩:=u;obtain⟨r,h8,h9,_⟩:=Gk (gQ hn) hT he u w m C.toList N;have R:=h9 ab;subst R;have S:=hk 10000 (gQ fu) false w _ w k cs u;have T:=MapKept.run_getObj_map (P:=F.P) G;have U:=λo=>MapKept.run_setObj_map (P:=F.P) o G;have L:=MapKept.heap_set (o':= .map (C.push { key:=a.eval y,val:=a.eval z,born:=A }) (A+1)) G;refine⟨b,{ w with heap:=w.heap.setIfInBounds b (.map (C.push { key:=a.eval y,val:=a.eval z,born:=A }) (A+1)) },.inl (by rw[D];rfl),⟨by simp,L.2,rfl,rfl,rfl⟩,?_,λB=>?_⟩
 ·simp[execOp,h1,D,ac,Instr.mapUpdate,hM,T,S,h8,U]
 ·refine⟨b,_,_,D,L.1,?_⟩;rw[aHa];exact Km (fN Q B) (fN I B) (yC B N)
end
inductive Z4 (P:aA5):List aA8->List (Nat×Nat)->Prop
 |nil:Z4 P [] []
 |cons {f:aA8} {fs:List aA8} {n off:Nat} {l:List (Nat×Nat)}:f.offset=off->P.cellsOf f.type=n->(P.info? f.type).isSome=true->Z4 P fs l->Z4 P (f::fs) ((off,n)::l)
theorem Z4.mapM{P:aA5}{fs:List aA8}{l:List (Nat×Nat)}(h:Z4 P fs l):(fs.mapM λf=>(P.info? f.type).map λi=>(f.offset,i.size))=some l:=by
 induction h with
 |nil=>rfl
 |cons B u C _ D=>
  rename_i f fs n A l _;rw[List.mapM_cons];unfold Program.cellsOf at u;cases hi:P.info? f.type<;>grind
theorem aI{P:aA5}{T:aAg}{ti:TypeInfo}{fs:Array aA8}{l:List (Nat×Nat)}{z:aA4}{zs:List aA4}(hI:∀w,(typeInfo T).run P w= .ok ti w)(hU:∀w,(underlying T).run P w= .ok (.struct fs) w)(hz:ti.zero=some z)(hc:z.cells=zs.toArray)(hp:Z4 P fs.toList l):∀parts,P.built T parts=Instr.fill (l.toArray[·]?) zs.toArray parts:=by
 intro parts;unfold Program.built;rw[uT hI,oB hU];simp[hz,hp.mapM,hc]
theorem Xz{P:aA5}{T:aAg}{ti:TypeInfo}{de:aA9}{z:aA4}(hI:∀w,(typeInfo T).run P w= .ok ti w)(hU:∀w,(underlying T).run P w= .ok de w)(hz:ti.zero=some z)(hd:(∃n E iE,de= .array n E/\P.info? E=some iE)):P.built T []=some z.cells:=by
 obtain⟨n,E,iE,rfl,u⟩:=hd;unfold Program.built;rw[uT hI,oB hU];simp[hz,u];rfl
section
variable {d:Option Tmp}{x y z:aAp}
theorem yY{α:Type}{e:Fu α}{v:α}{T E:aAg}{n:Nat}{ti tE:TypeInfo}{cs:List aA4}(hI:∀w,(typeInfo T).run F.P w= .ok ti w)(hU:∀w,(underlying T).run F.P w= .ok (.array n E) w)(hE:∀w,(typeInfo E).run F.P w= .ok tE w)(hz:ti.zero=some (.agg cs.toArray))(ha:e.agg=true)(hv:∀S w,e.ok v S w cs):JO F ⟨d,.build T #[],ty,p,af,gd⟩ O (.v e v) []:=by
 intro ρ S a w K;have u:=Xz hI hU hz ⟨n,E,tE,rfl,uT hE⟩;refine j6.value (v:= .agg cs.toArray) ?_ (y9.same (⟨cs,hv _ _,by grind [Fu.pk]⟩))
 simp_all [run_build,Value.cells,execOp,aGp]
theorem EJ{α:Type}{e:Fu α}{zs:List α}{U E:aAg}{len:Nat}{k:aA7}{n:Int}{v:α}(hz:Sw.idx zs n=some v)(hx:aV O.g x=some (.B8 (Fu.arr len e) zs))(hy:aV O.g y=some (.v (Fu.int k) n))(hU:∀w,(underlying U).run F.P w= .ok (.array len E) w)(hE:∀w,(sizeOf E).run F.P w= .ok e.n w):JO F ⟨d,.indexAddr U x y,ty,p,af,gd⟩ O (.B8 e v) []:=by
 intro ρ S a w K;have h:=K.slot x (by simp[Op.operands]) _ hx;obtain⟨b,off,N,Q,u,A,B,R,C⟩:=h;have M:=(dC K (x:=y) (by simp[Op.operands]) hy).1;obtain⟨D,T,G⟩:=iX hz;obtain⟨V,c,X,rfl,I,L,_⟩:=nL C G;refine j6.value (w':=w) (v:= .pointer (some ⟨b,off+n.toNat*e.n,none⟩)) ?_ (y9.same (by simp only[Slot.ok];exact⟨b,_,c,rfl,u,A,by rw[<-I];exact B.sub,L⟩));have:=Ar (P:=F.P) (w:=w) (b:=b) (off:=off) (k:=k) hU hE D (by omega:n<(len:Int))
 simp_all [execOp]
def sub{α:Type}(xs:List α)(lo hi:Int):Option (List α):=if 0<=lo/\lo<=hi/\hi<=xs.length then some ((xs.take hi.toNat).drop lo.toNat) else none
theorem eB{α:Type}{xs ys:List α}{lo hi:Int}(h:sub xs lo hi=some ys):0<=lo/\lo<=hi/\hi<=xs.length/\ys=(xs.take hi.toNat).drop lo.toNat:=by
 grind [sub]
theorem uZ{α:Type}{e:Fu α}{S w}:∀{xs:List α} {cs:List aA4} (n:Nat),e.H8 xs S w cs->e.H8 (xs.drop n) S w (cs.drop (n*e.n))
 |xs,cs,0,h=>by simpa using h
 | [],cs,n+1,h=>by
  have:cs=[]:=h;subst this;simpa using h
 |x::xs,cs,n+1,⟨c,d,B,C,D⟩=>by
  subst B;have:=uZ n D;have u:=e.len C;rw[aIk,aIj (n*e.n),<-u,aH1,u];have A:c.drop (e.n+n*e.n)=[]:=aHs (by omega);rw[A];simpa using this
theorem rM{α:Type}{e:Fu α}{S w}:∀{xs:List α} {cs:List aA4} (n:Nat),e.H8 xs S w cs->e.H8 (xs.take n) S w (cs.take (n*e.n))
 |xs,cs,0,h=>by simp;rfl
 | [],cs,n+1,h=>by
  have:cs=[]:=h;subst this;simpa using h
 |x::xs,cs,n+1,⟨c,d,C,A,D⟩=>by
  subst C;have:=rM n D;have u:=e.len A;refine⟨c,d.take (n*e.n),?_,A,this⟩;rw[aIk,aIj (n*e.n),<-u,List.take_append,u];have B:c.take (e.n+n*e.n)=c:=aFh (by omega);rw[B];simp
theorem r8.drop{w:aAf}{b off:Nat}{ds:List aA4}(n:Nat)(h:r8 w b off ds):r8 w b (off+n) (ds.drop n):=by
 obtain⟨c,T,u,A,C⟩:=h;refine⟨c,T,u,A,λj B=>?_⟩
 grind
theorem r8.take{w:aAf}{b off:Nat}{ds:List aA4}(n:Nat)(h:r8 w b off ds):r8 w b off (ds.take n):=by
 obtain⟨c,T,u,A,C⟩:=h;refine⟨c,T,u,A,λj B=>?_⟩
 grind
theorem Ya{α:Type}{e:Fu α}{xs ys:List α}{lo hi:Int}{S:Nat->Prop}{w:aAf}{a:Option aBc}{cap:Nat}(hs:sub xs lo hi=some ys)(hl:xs.length<=cap/\xs.length<=140737488355328)(h:xs=[]\/∃b off ds,a=some ⟨b,off,none⟩/\b<w.heap.size/\¬S b/\r8 w b off ds/\e.H8 xs S w ds):(Fu.sl e).val ys S w (.slice (if cap=lo.toNat then a else a.map (·.add (lo.toNat*e.n))) (hi.toNat - lo.toNat) (cap - lo.toNat)):=by
 obtain⟨G,I,K,rfl⟩:=eB hs;have u:((xs.take hi.toNat).drop lo.toNat).length=hi.toNat - lo.toNat:=by rw[mr,Z1];omega
 refine lY.2 ⟨_,_,by rw[u],⟨by rw[u];omega,by rw[u];omega⟩,?_⟩;rcases h with h |⟨b,off,ds,rfl,C,D,E,F⟩
 ·subst h;left;simp
 ·by_cases A:hi.toNat - lo.toNat=0
  ·left;exact ya (by rw[u];exact A)
  ·right;have B:¬cap=lo.toNat:=(by omega);refine⟨b,off+lo.toNat*e.n,_,by rw[nS B];simp[Addr.add_lit],C,D,(E.take (hi.toNat*e.n)).drop (lo.toNat*e.n),uZ _ (rM _ F)⟩
theorem Oc{P:aA5}{w:aAf}{len cap:Nat}{k k':aA7}{lo hi:Int}(h0:0<=lo)(h1:lo<=hi)(h2:hi<=cap):(Instr.sliceBounds true len cap (some (.int k lo)) (some (.int k' hi)) none).run P w= .ok (lo.toNat,hi.toNat,cap) w:=by
 have u:0<=hi:=by omega
 have A:lo<=(hi.toNat):=by omega
 simp only[Instr.sliceBounds,Instr.sliceBound,asIntOf,Sem.run_bind,Sem.run_pure,Result.andThen_ok,h2,u,A,h0,aIe,K4]
theorem Dz{P:aA5}{w:aAf}{len cap:Nat}{k':aA7}{hi:Int}(h1:0<=hi)(h2:hi<=cap):(Instr.sliceBounds true len cap none (some (.int k' hi)) none).run P w= .ok (0,hi.toNat,cap) w:=by
 simp_all [Instr.sliceBounds,Instr.sliceBound,asIntOf]
theorem Ax{P:aA5}{w:aAf}{len cap:Nat}{k:aA7}{lo:Int}(h0:0<=lo)(h1:lo<=len):(Instr.sliceBounds true len cap (some (.int k lo)) none none).run P w= .ok (lo.toNat,len,cap) w:=by
 simp_all [Instr.sliceBounds,Instr.sliceBound,asIntOf]
theorem Tq{α:Type}{e:Fu α}{xs:List α}{xs':Array aAp}{ρ:Nat->LV}{S a w}(K:M4 O xs' ρ S a w)(hm:x∈xs')(hx:aV O.g x=some (.v (Fu.sl e) xs)):∃ad cap,a.eval x= .slice ad xs.length cap/\(xs.length<=cap/\xs.length<=140737488355328)/\(xs=[]\/∃b off ds,ad=some ⟨b,off,none⟩/\b<w.heap.size/\¬S b/\r8 w b off ds/\e.H8 xs S w ds):=by
 have h:=K.slot x hm _ hx;exact lY.1 h
theorem EK{α:Type}{e:Fu α}{xs ys:List α}{lo hi:Int}{k k':aA7}{U E:aAg}(hs:sub xs lo hi=some ys)(hx:aV O.g x=some (.v (Fu.sl e) xs))(hy:aV O.g y=some (.v (Fu.int k) lo))(hz:aV O.g z=some (.v (Fu.int k') hi))(hU:∀w,(underlying U).run F.P w= .ok (.slice E) w)(hE:∀w,(sizeOf E).run F.P w= .ok e.n w):JO F ⟨d,.slice U x (some y) (some z) none,ty,p,af,gd⟩ O (.v (Fu.sl e) ys) []:=by
 intro ρ S a w K;obtain⟨L,B,C,D,G⟩:=Tq K (x:=x) (by simp[Op.operands]) hx;have u:=(dC K (x:=y) (by simp[Op.operands]) hy).1;have A:=(dC K (x:=z) (by simp[Op.operands]) hz).1;obtain⟨I,s1,s2,_⟩:=eB hs;refine j6.value (w':=w) ?_ (y9.same (by exact Ya hs D G));simp[execOp,Instr.sliceAt,Instr.slice,C,u,A,hU,hE,Oc I s1 (show hi<=(B:Int) by omega)]
theorem Qx{α:Type}{e:Fu α}{xs ys:List α}{hi:Int}{k':aA7}{U E:aAg}(hs:sub xs 0 hi=some ys)(hx:aV O.g x=some (.v (Fu.sl e) xs))(hz:aV O.g z=some (.v (Fu.int k') hi))(hU:∀w,(underlying U).run F.P w= .ok (.slice E) w)(hE:∀w,(sizeOf E).run F.P w= .ok e.n w):JO F ⟨d,.slice U x none (some z) none,ty,p,af,gd⟩ O (.v (Fu.sl e) ys) []:=by
 intro ρ S a w K;obtain⟨G,A,B,C,D⟩:=Tq K (x:=x) (by simp[Op.operands]) hx;have u:=(dC K (x:=z) (by simp[Op.operands]) hz).1;obtain⟨I,s1,s2,_⟩:=eB hs;refine j6.value (w':=w) ?_ (y9.same (by exact Ya hs C D));simp[execOp,Instr.sliceAt,Instr.slice,B,u,hU,hE,Dz s1 (show hi<=(A:Int) by omega)]
theorem Ea{α:Type}{e:Fu α}{xs ys:List α}{lo:Int}{k:aA7}{U E:aAg}(hs:sub xs lo (xs.length:Int)=some ys)(hx:aV O.g x=some (.v (Fu.sl e) xs))(hy:aV O.g y=some (.v (Fu.int k) lo))(hU:∀w,(underlying U).run F.P w= .ok (.slice E) w)(hE:∀w,(sizeOf E).run F.P w= .ok e.n w):JO F ⟨d,.slice U x (some y) none none,ty,p,af,gd⟩ O (.v (Fu.sl e) ys) []:=by
 intro ρ S a w K;obtain⟨C,D,G,u,A⟩:=Tq K (x:=x) (by simp[Op.operands]) hx;have B:=(dC K (x:=y) (by simp[Op.operands]) hy).1;obtain⟨I,s1,s2,_⟩:=eB hs;refine j6.value (w':=w) ?_ (y9.same (by exact Ya hs u A))
 simp_all [execOp,Instr.sliceAt,Instr.slice,Ax]
theorem JH{α:Type}{e:Fu α}{xs ys:List α}{lo hi m:Int}{k k' k2:aA7}{q:aAp}{U E:aAg}(hs:sub xs lo hi=some ys)(hm:hi<=m/\m<=xs.length)(hx:aV O.g x=some (.v (Fu.sl e) xs))(hy:aV O.g y=some (.v (Fu.int k) lo))(hz:aV O.g z=some (.v (Fu.int k') hi))(hq:aV O.g q=some (.v (Fu.int k2) m))(hU:∀w,(underlying U).run F.P w= .ok (.slice E) w)(hE:∀w,(sizeOf E).run F.P w= .ok e.n w):JO F ⟨d,.slice U x (some y) (some z) (some q),ty,p,af,gd⟩ O (.v (Fu.sl e) ys) []:=by
 intro ρ S a w K;obtain⟨G,I,h1,h2,D⟩:=Tq K (x:=x) (by simp[Op.operands]) hx;have A:=(dC K (x:=y) (by simp[Op.operands]) hy).1;have B:=(dC K (x:=z) (by simp[Op.operands]) hz).1;have C:=(dC K (x:=q) (by simp[Op.operands]) hq).1;obtain⟨s0,s1,s2,rfl⟩:=eB hs;have u:((xs.take hi.toNat).drop lo.toNat).length=hi.toNat - lo.toNat:=by rw[mr,Z1];omega
 have L:(Fu.sl e).val ((xs.take hi.toNat).drop lo.toNat) S w (.slice (if m.toNat=lo.toNat then G else G.map (·.add (lo.toNat*e.n))) (hi.toNat - lo.toNat) (m.toNat - lo.toNat)):=by
  refine lY.2 ⟨_,_,by rw[u],⟨by rw[u];omega,by rw[u];omega⟩,?_⟩;rcases D with h |⟨b,ab,ds,rfl,D,A,B,C⟩
  ·subst h;left;simp
  ·by_cases M:hi.toNat - lo.toNat=0
   ·left;exact ya (by rw[u];exact M)
   ·right;have N:¬m.toNat=lo.toNat:=(by omega);refine⟨b,ab+lo.toNat*e.n,_,by rw[nS N];simp[Addr.add_lit],D,A,(B.take (hi.toNat*e.n)).drop (lo.toNat*e.n),uZ _ (rM _ C)⟩
 refine j6.value (w':=w) ?_ (y9.same (by simp only[Slot.ok];exact L));have Q:(Instr.sliceBounds true xs.length I (some (.int k lo)) (some (.int k' hi)) (some (.int k2 m))).run F.P w= .ok (lo.toNat,hi.toNat,m.toNat) w:=by
  have R:0<=m:=by omega
  have T:m<=(I:Int):=by omega
  have V:0<=hi:=by omega
  have X:hi<=(m.toNat:Int):=by omega
  have q5:lo<=(hi.toNat:Int):=by omega
  simp only[Instr.sliceBounds,Instr.sliceBound,asIntOf,Sem.run_bind,Sem.run_pure,Result.andThen_ok,s0,R,T,V,X,q5,aIe,K4]
 simp[execOp,Instr.sliceAt,Instr.slice,h1,A,B,C,hU,hE,Q]
def S6{α:Type}(n:Nat)(xs:List α):Option (List α):=if n<=xs.length/\0<n then some (xs.take n) else none
theorem Br{α:Type}{e:Fu α}{xs ys:List α}{n:Nat}{U E:aAg}(hs:S6 n xs=some ys)(hx:aV O.g x=some (.v (Fu.sl e) xs))(hU:∀w,(underlying U).run F.P w= .ok (.array n E) w):JO F ⟨d,.sliceToArrayPointer U x,ty,p,af,gd⟩ O (.B8 (Fu.arr n e) ys) []:=by
 intro ρ S a w K;obtain⟨M,N,B,Q,u⟩:=Tq K (x:=x) (by simp[Op.operands]) hx;unfold S6 at hs;split at hs
 ·rename_i L;cases hs;rcases u with h |⟨b,C,R,rfl,u,D,G,I⟩
  ·grind
  ·have A:¬xs.length<n:=(by omega);refine j6.value (w':=w) ?_ (y9.same (by exact⟨b,C,_,rfl,u,D,G.take (n*e.n),by rw[Z1];omega,rM _ I⟩));simp[execOp,Instr.arrayAt,B,hU,A]
 ·cases hs
theorem Qy{k:aA7}{m n:Int}{U U':aAg}(hx:aV O.g x=some (.v (Fu.int k) m))(hy:aV O.g y=some (.v (Fu.int k) n)):JO F ⟨d,.call ⟨.builtin .max,#[x,y],#[U,U']⟩,ty,p,af,gd⟩ O (.v (Fu.int k) (max m n)) []:=by
 intro ρ S a w K;obtain⟨u,B⟩:=dC K (x:=x) (by simp[Op.operands,Call.operands]) hx;obtain⟨A,C⟩:=dC K (by simp[Op.operands,Call.operands]) hy;have e:(if n>m then n else m)=max m n:=by omega
 refine j6.value ?_ (y9.same (pE (by grind) ρ S w));simp[execOp,resolve,invoke,builtin,u,A,Builtin.max_,Builtin.max2,e]
theorem Bs{k:aA7}{m n:Int}{U U':aAg}(hx:aV O.g x=some (.v (Fu.int k) m))(hy:aV O.g y=some (.v (Fu.int k) n)):JO F ⟨d,.call ⟨.builtin .min,#[x,y],#[U,U']⟩,ty,p,af,gd⟩ O (.v (Fu.int k) (min m n)) []:=by
 intro ρ S a w K;obtain⟨u,B⟩:=dC K (x:=x) (by simp[Op.operands,Call.operands]) hx;obtain⟨A,C⟩:=dC K (by simp[Op.operands,Call.operands]) hy;have e:(if n<m then n else m)=min m n:=by omega
 refine j6.value (w':=w) ?_ (y9.same (pE (by grind) ρ S w));simp[execOp,resolve,invoke,builtin,u,A,Builtin.min_,Builtin.min2,e]
theorem Gl{T U:aAg}{l:List Slot}{i off n:Nat}{s0:Slot}(hx:aV O.g x=some (.ptr i off))(he:aF O.d i=some (.box T l pb))(ho:jJ l off=some s0)(hy:Arg O false y s)(hp:s.plain=true)(N2:s.sz=n)(Y4:s0.sz=n)(hS:∀w,(sizeOf U).run F.P w= .ok n w):JM F ⟨none,.store U x y,ty,p,af,gd⟩ O ⟨O.g,(i,.box T (jK l off s) pb)::O.d⟩:=by
 refine lC he rfl λρ a w B C=>?_;have K:=aY B C (Op.store U x y).operands;obtain⟨b,cs,D,N,E,Q⟩:=yF K (x:=x) (by simp[Op.operands]) hx he;have A:=pV hp (hy ρ _ a w (aY B C #[y]));simp only[mu,M5] at A;obtain⟨R,c,S,rfl,rfl,V,X⟩:=uD ho Q;have G:∀u∈(a.eval y).cells.toList,u.oneCell'=true:=λu L=>Dw A u L (λe=>by subst e;cases hp);have I:=jF (P:=F.P) (w:=w) (U:=U) hS (by have:=mG A;simp only[rk] at this;omega) G E rfl (by rw[mG V];exact Y4);refine⟨b,w.setRow b (R++((a.eval y).cells.toList++S)).toArray,.inl (by rw[D];rfl),ff.setRow w b _,?_,λM=>?_⟩
 ·exact iC N I
 ·refine⟨⟨b,_,D,setRow_heap w b _ _ T _ E,?_⟩,(B.own i _ he).2⟩;exact eI _ _ (X s _ A) M (λ_ _=>rfl)
theorem JI(g:Nat)(ρ:Nat->LV)(S:Nat->Prop)(w:aAf):(Slot.G0 g []).ok ρ S w (.func (.func g) #[] #[]):=⟨[],rfl,rfl⟩
theorem Arg.fn{g:Nat}{F8:Bool}:Arg O F8 (.func g) (.G0 g []):=λρ _ a w _=>JI g ρ _ w
end
section
variable {d:Option Tmp}{x y z:aAp}
theorem yZ{ρ S w}:∀{l l':List Slot} {vs jr:List aA4},aG ρ S w l vs->aG ρ S w l' jr->aG ρ S w (l++l') (vs++jr)
 | [],_,vs,_,h,A=>by grind [aG]
 |s::l,_,vs,_,h,A=>by
  obtain⟨u,ws,rfl,B,C⟩:=h;exact⟨u,_,rfl,B,yZ C A⟩
theorem Od{P:aA5}{f:aA6}{xs:List aAp}{ts:Array aAg}{a:aBe}{w:aAf}{cs:List aA4}(hx:a.eval x= .func (.func f) #[] cs.toArray)(B5:∀args w,(callFunc f args).run P w= .ok (.enter f args) w):(execOp a.eval ⟨d,.call ⟨.value x,xs.toArray,ts⟩,ty,p,af,gd⟩).run P w= .ok (.enter f (xs.map a.eval++cs).toArray) w:=by
 simp_all [execOp,resolve,Deferred.ofValue,invoke]
theorem Hr{f:aA6}{xs:List aAp}{cap:List Slot}(ha:W7 O false xs cap):JO F ⟨d,.makeFunc (.func f) #[] xs.toArray,ty,p,af,gd⟩ O (.G0 f cap) []:=by
 intro ρ S a w K;have:=ha.spec (by simp[Op.operands]) K;refine j6.value (v:= .func (.func f) #[] (xs.map a.eval).toArray) (by simp[execOp,Instr.makeFunc]) (y9.same (by grind [Slot.ok]))
theorem Yb{α:Type}{i:Nat}{T:aAg}{e:Fu α}{v:α}{bl:List Slot}{ρ:Nat->LV}{S:Nat->Prop}{w:aAf}{u:aA4}(h0:(Slot.ptr i 0).ok ρ S w u)(he:(j2.box T bl pb).ok ρ S w (ρ i))(hs:X7 bl e v):(Slot.B8 e v).ok ρ (λ_=>False) w u:=by
 obtain⟨⟨b,C⟩,D⟩:=h0;obtain⟨⟨A,cs,F,B,E⟩,_⟩:=he;obtain rfl:A=b:=by grind
 exact⟨A,0,cs,by rw[D,C];rfl,(r8.of_heap B).lt,λh=>h,r8.of_heap B,e.mono ((hs _ _ _ _).1 E) (yG S w true)⟩
inductive uj (O:AS):List Slot->List Slot->Prop
 |nil:uj O [] []
 |same {s:Slot} {l l':List Slot}:uj O l l'->uj O (s::l) (s::l')
 |ptr {α:Type} {i:Nat} {T:aAg} {e:Fu α} {v:α} {bl l l':List Slot} {pb:Option Nat}:aF O.d i=some (.box T bl pb)->X7 bl e v->uj O l l'->uj O (.ptr i 0::l) (.B8 e v::l')
theorem uj.spec{l l':List Slot}(h:uj O l l'){ρ S w}(aNv:∀i∈bX l,∀en,aF O.d i=some en->en.ok ρ S w (ρ i)):∀vs,aG ρ S w l vs->aG ρ (λ_=>False) w l' vs:=by
 induction h with
 |nil=>intro vs h;exact h
 |same _ A=>
  intro vs h;obtain⟨u,ws,C,D,E⟩:=h;exact⟨u,ws,C,Slot.j5 _ u D (yG S w true) (λ_ _=>rfl),A (λi B=>aNv i (by simp[bX,B])) ws E⟩
 |ptr F G _ A=>
  grind [aG,Yb,bX,Slot.E1]
theorem EL{α:Type}{i:Nat}{T:aAg}{e:Fu α}{v:α}{bl:List Slot}(h:aV O.g x=some (.ptr i 0))(he:aF O.d i=some (.box T bl pb))(hs:X7 bl e v):Arg O true x (.B8 e v):=by
 intro ρ S a w K;have u:=K.slot x (by simp) _ h;exact Yb u (K.U4 x (by simp) _ h i (by simp[Slot.E1]) _ he).1 hs
theorem EM{g:Nat}{cap je:List Slot}(h:aV O.g x=some (.G0 g cap))(hc:uj O cap je):Arg O true x (.G0 g je):=by
 intro ρ S a w K;have u:=K.slot x (by simp) _ h;obtain⟨vs,C,D⟩:=u;exact⟨vs,C,hc.spec (λi E A B=>(K.U4 x (by simp) _ h i (by grind [Slot.E1]) A B).1) vs D⟩
theorem EO{α:Type}{e:Fu α}{v:α}(hx:aV O.g x=some (.B8 e v)):JO F ⟨d,.nilCheck x,ty,p,af,gd⟩ O (.B8 e v) []:=by
 intro ρ S a w K;have h:=K.slot x (by simp[Op.operands]) _ hx;have u:=h;obtain⟨b,B,C,A,_⟩:=u;refine j6.value (w':=w) ?_ (y9.same h);simp[execOp,A]
theorem iO{i off:Nat}(hx:aV O.g x=some (.ptr i off)):JO F ⟨d,.nilCheck x,ty,p,af,gd⟩ O (.ptr i off) []:=by
 intro ρ S a w K;have h:=K.slot x (by simp[Op.operands]) _ hx;have u:=h;obtain⟨⟨b,A⟩,B⟩:=u;refine j6.value ?_ (y9.same h);simp[execOp,B,A,Al]
end
theorem X7.C8{α β:Type}{l l':List Slot}{a:Fu α}{b:Fu β}{x:α}{y:β}(h:X7 l a x)(h':X7 l' b y):X7 (l++l') (Fu.pr a b) (x,y):=X7.pr (x:=(x,y)) h h'
section
variable {d:Option Tmp}{x y z:aAp}
theorem cQ{f:aA6}{xs:List aAp}{ts:Array aAg}{ss:List Slot}{res:Slot}(hc:O4 F.P f ss res [])(B5:∀args w,(callFunc f args).run F.P w= .ok (.enter f args) w)(ha:W7 O false xs ss):JO F ⟨d,.call ⟨.value (.func f),xs.toArray,ts⟩,ty,p,af,gd⟩ O res []:=by
 intro ρ S a w K;refine j6.enter (pW B5) ?_;have:=ha.spec (by grind [Op.operands,Call.operands]) K;refine(hc S w _ ρ K.low this).mono ?_;simp
theorem EP{f:aA6}{xs:List aAp}{ts:Array aAg}{ss cap:List Slot}{res:Slot}(hx:aV O.g x=some (.G0 f cap))(hc:O4 F.P f (ss++cap) res [])(B5:∀args w,(callFunc f args).run F.P w= .ok (.enter f args) w)(ha:W7 O false xs ss):JO F ⟨d,.call ⟨.value x,xs.toArray,ts⟩,ty,p,af,gd⟩ O res []:=by
 intro ρ S a w K;have u:=K.slot x (by simp[Op.operands,Call.operands]) _ hx;obtain⟨cs,A,B⟩:=u;refine j6.enter (Od A B5) ?_;have:=ha.spec (by intro x hx;simp[Op.operands,Call.operands,hx]) K;refine(hc S w _ ρ K.low (yZ this B)).mono ?_;simp
theorem Oe{f:aA6}{xs:List aAp}{ts:Array aAg}{ss:List Slot}{res:Slot}(hc:O4 F.P f ss res [])(B5:∀args w,(callFunc f args).run F.P w= .ok (.enter f args) w)(ha:W7 O true xs ss)(hf:D7 res):JO F ⟨d,.call ⟨.value (.func f),xs.toArray,ts⟩,ty,p,af,gd⟩ O res []:=by
 intro ρ S a w K;refine j6.enter (pW B5) ?_;have:=ha.spec (by grind [Op.operands,Call.operands]) K;refine(hc (λ_=>False) w _ ρ (λ_ h=>h.elim) this).mono ?_;rintro e E ⟨v,rfl,ρ',A,B,C,G⟩;refine⟨v,rfl,ρ',A,B,hf _ _ _ _ _ C,⟨λi u h=>by grind [aF],λi u b h=>by simp[aF] at h,λi j u D b h=>by simp[aF]⟩⟩
theorem Yc{P:aA5}{w:aAf}{n:Nat}:(Instr.sliceBounds false n n none none none).run P w= .ok (0,n,n) w:=rfl
theorem Tr{P:aA5}{w:aAf}{n:Nat}{k:aA7}{hi:Int}(h0:0<=hi)(h1:hi<=n):(Instr.sliceBounds false n n none (some (.int k hi)) none).run P w= .ok (0,hi.toNat,n) w:=by
 simp_all [Instr.sliceBounds,Instr.sliceBound,asIntOf]
theorem Of{P:aA5}{w:aAf}{U E:aAg}{b off len m:Nat}(hU:∀w,(underlying U).run P w= .ok (.array len E) w)(hE:∀w,(sizeOf E).run P w= .ok m w):(Instr.sliceAt U (.pointer (some ⟨b,off,none⟩)) none none none).run P w= .ok (.slice (some ⟨b,off,none⟩) len len) w:=by
 simp_all [Addr.add,Addr.add_lit,Instr.sliceAt,Instr.sureAddr,Yc]
theorem Yd{P:aA5}{w:aAf}{U E:aAg}{b off len m:Nat}{k:aA7}{hi:Int}(h0:0<=hi)(h1:hi<=len)(hU:∀w,(underlying U).run P w= .ok (.array len E) w)(hE:∀w,(sizeOf E).run P w= .ok m w):(Instr.sliceAt U (.pointer (some ⟨b,off,none⟩)) none (some (.int k hi)) none).run P w= .ok (.slice (some ⟨b,off,none⟩) hi.toNat len) w:=by
 simp_all [Addr.add,Addr.add_lit,Instr.sliceAt,Instr.sureAddr,Tr]
theorem ES{α:Type}{e:Fu α}{zs:List α}{T U E:aAg}{l:List Slot}{i off len:Nat}(hx:aV O.g x=some (.ptr i off))(he:aF O.d i=some (.box T l pb))(_ho:jJ l off=some (.v (Fu.arr len e) zs))(hU:∀w,(underlying U).run F.P w= .ok (.array len E) w)(hE:∀w,(sizeOf E).run F.P w= .ok e.n w):JO F ⟨d,.slice U x none none none,ty,p,af,gd⟩ O (.T9 i off 0 len len) []:=by
 intro ρ S a w K;obtain⟨b,cs,u,A,B,C⟩:=yF K (by simp[Op.operands]) hx he;refine j6.value (v:= .slice (some ⟨b,off,none⟩) len len) ?_ (y9.same (⟨⟨b,u⟩,by rw[u];rfl⟩));simp[execOp,A,Of hU hE]
theorem aBm{xs:Array aAp}{ρ:Nat->LV}{S a w}(K:M4 O xs ρ S a w)(hm:x∈xs){i off n cap:Nat}{T:aAg}{l:List Slot}(hx:aV O.g x=some (.T9 i off 0 n cap))(he:aF O.d i=some (.box T l pb)):∃b cs,a.eval x= .slice (some ⟨b,off,none⟩) n cap/\w.heap[b]? =some (.cells cs.toArray T (0,0))/\aL ρ S w l cs:=by
 have h:=K.slot x hm _ hx;obtain⟨⟨b,A⟩,B⟩:=h;have:=(K.U4 x hm _ hx i (by simp[Slot.E1]) _ he).1;obtain⟨⟨u,cs,E,C,D⟩,_⟩:=this;obtain rfl:u=b:=by grind
 exact⟨u,cs,by rw[B,A];rfl,C,D⟩
theorem QV{α:Type}{e:Fu α}{zs:List α}{T:aAg}{l:List Slot}{b off len:Nat}{cs:List aA4}{ρ:Nat->LV}{S:Nat->Prop}{w:aAf}(h3:w.heap[b]? =some (.cells cs.toArray T (0,0)))(h4:aL ρ S w l cs)(ho:jJ l off=some (.v (Fu.arr len e) zs)):zs.length=len/\∃ds,r8 w b off ds/\e.H8 zs S w ds:=by
 obtain⟨A,c,B,rfl,rfl,u,_⟩:=uD ho h4;exact⟨u.1,c,by have:=(r8.of_heap h3).sub;grind,u.2⟩
theorem Src.T9{α:Type}{e:Fu α}{zs:List α}{T:aAg}{l:List Slot}{i off len:Nat}(h:aV O.g y=some (.T9 i off 0 len len))(he:aF O.d i=some (.box T l pb))(ho:jJ l off=some (.v (Fu.arr len e) zs))(hlen:Nat.ble len 4294967296=true):Src O y e zs:=by
 intro ρ S a w K;have hlen:=gQ hlen;obtain⟨b,cs,u,A,B⟩:=aBm K (by simp) h he
 grind [QV]
theorem JJ{α:Type}{e:Fu α}{zs:List α}{U E:aAg}{len:Nat}(hx:aV O.g x=some (.B8 (Fu.arr len e) zs))(hlen:Nat.ble len 4294967296=true)(hU:∀w,(underlying U).run F.P w= .ok (.array len E) w)(hE:∀w,(sizeOf E).run F.P w= .ok e.n w):JO F ⟨d,.slice U x none none none,ty,p,af,gd⟩ O (.v (Fu.sl e) zs) []:=by
 intro ρ S a w K;have hlen:=gQ hlen;have h:=K.slot x (by simp[Op.operands]) _ hx;simp only[Slot.ok] at h;obtain⟨b,u,C,A,D,G,I,B,L⟩:=h;refine j6.value (w':=w) (v:= .slice (some ⟨b,u,none⟩) len len) ?_ (y9.same (by simp only[Slot.ok];exact lY.2 ⟨_,_,by rw[B],⟨by omega,by omega⟩,(by grind)⟩));simp[execOp,A,Of hU hE]
theorem Og{α:Type}{e:Fu α}{T E:aAg}{n:Nat}{ti tE:TypeInfo}{z:aA4}{ps:List (Nat×aAp)}{zs:List α}(hI:∀w,(typeInfo T).run F.P w= .ok ti w)(hU:∀w,(underlying T).run F.P w= .ok (.array n E) w)(hE:∀w,(typeInfo E).run F.P w= .ok tE w)(hs:tE.size=e.n)(hz:ti.zero=some z)(hzn:z.cells.size=n*e.n)(hl:ps.length=n)(U1:zs.length=n)(he:N0 O e 0 ps zs):JO F ⟨d,.build T ps.toArray,ty,p,af,gd⟩ O (.v (Fu.arr n e) zs) []:=by
 intro ρ S a w K;obtain⟨u,B,A⟩:=he.spec (by simp[Op.operands]) K [] z.cells.toList (by simp) (by grind);refine j6.value (v:= .agg u.toArray) ?_ (y9.same (⟨u,⟨U1,A⟩,rfl⟩))
 simp_all [Program.built,uT,oB,run_build,execOp,aGp]
end
def Fu.qh{α:Type}(e:Fu α):Fu (Bool×List α) where
 n:=1
 agg:=false
 ok x S w cs:=(Fu.sl e).ok x.2 S w cs/\∀a l c,cs=[.slice a l c]->x.1=a.isNone
 len h:=(Fu.sl e).len h.1
 one _:=rfl
 cell h:=(Fu.sl e).cell h.1
 mono h k:=⟨(Fu.sl e).mono h.1 k,h.2⟩
theorem Qz{α:Type}{e:Fu α}{b:Bool}{xs:List α}{S w u}(h:(Fu.qh e).val (b,xs) S w u):(Fu.sl e).val xs S w u/\∃a l c,u= .slice a l c/\b=a.isNone:=by
 obtain⟨cs,⟨A,C⟩,rfl⟩:=h;refine⟨⟨cs,A,rfl⟩,?_⟩;obtain⟨a,D,B,_⟩:=A;exact⟨a,_,D,by rw[B];rfl,C _ _ _ B⟩
theorem qN{α:Type}{P:aA5}{f:aA6}{e:Fu α}{xs:List α}{res:Slot}{new:List (Nat×j2)}(h:∀b,(b=true->xs=[])->O4 P f [.v (Fu.qh e) (b,xs)] res new):O4 P f [.v (Fu.sl e) xs] res new:=by
 intro S w vs ρ hl hv;simp only[aG,Slot.ok] at hv;obtain⟨u,ws,rfl,D,rfl⟩:=hv;obtain⟨a,B,rfl,E,A⟩:=lY.1 D;refine h a.isNone (λC=>?_) S w _ ρ hl ?_
 ·rcases A with A |⟨b,G,I,rfl,_⟩
  ·exact A
  ·cases C
 ·simp only[aG,Slot.ok];refine⟨_,[],rfl,⟨[.slice a xs.length B],⟨⟨a,B,rfl,E,A⟩,λF l c h=>?_⟩,rfl⟩,rfl⟩;simp at h;rw[h.1]
section
variable {d:Option Tmp}{x y z:aAp}
theorem EU{α:Type}{e:Fu α}{v:Bool×List α}{T T' E:aAg}(hx:aV O.g x=some (.v (Fu.qh e) v))(hT:∀w,(underlying T).run F.P w= .ok (.slice E) w):JO F ⟨d,.binOp .eql T x (.const (.slice none 0 0)) T',ty,p,af,gd⟩ O (.v Fu.bool v.1) []:=by
 intro ρ S a w K;have h:=K.slot x (by simp[Op.operands]) _ hx;simp only[Slot.ok] at h;obtain⟨b,xs⟩:=v;obtain⟨_,u,l,c,B,rfl⟩:=Qz h;have A:=run_equalIn_slice_nil (P:=F.P) w 9999 T E u l c (oB hT);refine j6.value (w':=w) (v:= .bool u.isNone) ?_ (y9.same (iA _ ρ S w));exact Ip (r:=u.isNone) (.inl ⟨rfl,rfl⟩) B rfl (by intros;simp) (by intros;simp) (by intros;simp) (by intros;simp) (by simp[eqGuard,Act.eval]) A
theorem Src.qh{α:Type}{e:Fu α}{v:Bool×List α}(h:aV O.g y=some (.v (Fu.qh e) v)):Src O y e v.2:=by
 intro ρ S a w K;have A:=K.slot y (by simp) _ h;simp only[Slot.ok] at A;obtain⟨B,C,D,E,u⟩:=lY.1 (Qz A).1;refine⟨E.2,B,C,D,?_⟩;rcases u with u |⟨b,F,G,I,_,_,L,M⟩
 ·exact .inl u
 ·exact .inr ⟨b,F,G,I,L,M⟩
end
def ZrN(cs:List aA4)(l:List Slot)(new:List (Nat×j2)):Prop:=∀ρ S w,(∀i en,aF new i=some en->ρ i= .of (.slice none 0 0))->aL ρ S w l cs
theorem ZrN.nil{new:List (Nat×j2)}:ZrN [] [] new:=λ_ _ _ _=>rfl
theorem ZrN.cons{cs:List aA4}{l:List Slot}{new:List (Nat×j2)}{α:Type}{e:Fu α}{z:α}{c:List aA4}(h:∀S w,e.ok z S w c)(k:ZrN cs l new):ZrN (c++cs) (.v e z::l) new:=λρ S w u=>⟨c,cs,rfl,by grind [Slot.I2],k ρ S w u⟩
theorem ZrN.ref{cs:List aA4}{l:List Slot}{new:List (Nat×j2)}{en:j2}(i:Nat)(hi:aF new i=some en)(k:ZrN cs l new):ZrN (.slice none 0 0::cs) (.ref i::l) new:=λρ S w u=>⟨[.slice none 0 0],cs,rfl,by simp[Slot.I2];rw[u i en hi];exact⟨.inl ⟨_,_,_,rfl⟩,rfl⟩,k ρ S w u⟩
inductive uh:List (Nat×j2)->Prop
 |nil:uh []
 |cons {α:Type} {i:Nat} {T:aAg} {e:Fu α} {r:List (Nat×j2)}:uh r->uh ((i,.arr T e [])::r)
 |dp {α:Type} {i:Nat} {D:DE α} {x:α} {r:List (Nat×j2)}:(∀S w,D.ok x S w (.of (.slice none 0 0)) [])->uh r->uh ((i,.dp D x [])::r)
theorem uh.spec{new:List (Nat×j2)}(h:uh new):∀i en,aF new i=some en->∀ρ S w,en.ok ρ S w (.of (.slice none 0 0)):=by
 induction h with
 |nil=>simp[aF]
 |cons _ u=>
  rename_i α i T e r _;intro j en h;simp only[aF] at h;cases hb:Nat.beq i j with
  |true=>rw[hb] at h;simp at h;subst h;intro ρ S w;exact .inl ⟨rfl,rfl⟩
  |false=>grind
 |dp A _ u=>
  rename_i α i D x r _;intro j en h;simp only[aF] at h;cases hb:Nat.beq i j with
  |true=>rw[hb] at h;simp at h;subst h;intro ρ S w;exact A S w
  |false=>rw[hb] at h;exact u j en h
section
variable {d:Option Tmp}{x y z:aAp}
theorem BI{new:List (Nat×j2)}{xs:Array aAp}{ρ:Nat->LV}{S:Nat->Prop}{a:aBe}{w:aAf}(hn:uh new)(hf:O.free new=true)(K:M4 O xs ρ S a w):∃ρ':Nat->LV,(∀i,aF new i=none->ρ' i=ρ i)/\(∀i en,aF new i=some en->ρ' i= .of (.slice none 0 0))/\M4 O xs ρ' S a w/\aKd ρ' (Un S ρ' new) w w new/\Ext S (Un S ρ' new) w w:=by
 let ρ':Nat->LV:=λi=>if (aF new i).isSome then .of (.slice none 0 0) else ρ i
 have E:∀i,aF new i=none->ρ' i=ρ i:=λi h=>nS (by simp[h]);have C:∀i en,aF new i=some en->ρ' i= .of (.slice none 0 0):=λi en h=>sM (by simp[h]);have G:=λ{i en} (h:aF new i=some en)=>kB hf h;have N:∀t s,lk O.g t=some s->lE ρ ρ' s.E1:=by
  intro t s T j B;cases hl:aF new j with
  |none=>exact congrArg LV.v (E j hl)
  |some en=>exact absurd B ((G hl).1 t s T)
 have P:∀i en,aF O.d i=some en->lE ρ ρ' en.E1:=by
  intro i en I j B;cases hl:aF new j with
  |none=>exact congrArg LV.v (E j hl)
  |some U=>exact absurd B ((G hl).2.2 i en I)
 have Q:∀x s,aV O.g x=some s->lE ρ ρ' s.E1:=by
  intro x s A;cases x with
  |tmp t=>exact N t s A
  |const u=>have:=(Jy A ρ S w).2;intro j B;rw[this] at B;simp at B
  |global g=>cases A
  |func f=>cases A
 refine⟨ρ',E,C,⟨K.low,λx A s F=>Slot.j5 s _ (K.slot x A s F) (Ext.refl S w) (Q x s F),λx A s F i I en L=>?_⟩,⟨λi en h=>?_,λi en b h D=>?_,λi j en U b h h' D _=>?_⟩,⟨gC _,λk _ V=>⟨rfl,?_⟩⟩⟩
 ·obtain⟨X,k2⟩:=K.U4 x A s F i I en L
  have R:ρ' i=ρ i:=E i (by
   cases hl:aF new i with
   |none=>rfl
   |some e=>have:=(G hl).2.1;rw[L] at this;cases this)
  rw[R];exact⟨j2.j5 X (Ext.refl S w) (P i en L) (λ_ _=>rfl),k2⟩
 ·rw[C i en h];exact hn.spec i en h _ _ _
 ·rw[C i en h] at D;simp[nN,E2] at D
 ·rw[C i en h] at D;simp[nN,E2] at D
 ·rintro (h |⟨i,en,h3,M⟩)
  ·exact V h
  ·rw[C i en h3] at M;simp[nN,E2] at M
theorem dR{T:aAg}{pl:Array (Nat×Nat)}{zs:List aA4}{ps:List (Nat×aAp)}{l l':List Slot}{new:List (Nat×j2)}(hB:∀parts,F.P.built T parts=Instr.fill (pl[·]?) zs.toArray parts)(hz:ZrN zs l new)(hn:uh new)(hf:O.free new=true)(hp:H6 O pl l ps l'):JO F ⟨d,.build T ps.toArray,ty,p,af,gd⟩ O (.agg l') new:=by
 intro ρ S a w K;obtain⟨ρ',A,B,C,D,E⟩:=BI hn hf K;obtain⟨G,I,L⟩:=hp.spec (by simp[Op.operands]) C zs (hz ρ' S w B);have u:(Slot.agg l').ok ρ' S w (.agg G.toArray):=by simp only[Slot.ok];grind
 refine j6.value (w':=w) ?_ ⟨ρ',A,Below.refl _ _,Slot.j5 _ _ u E (λ_ _=>rfl),D⟩
 simp_all [run_build,execOp,aGp]
end
structure Ins (S:Nat->Prop) (ρ:Nat->LV) (w:aAf) (C5:List (Nat×j2)):Prop where
 own:∀i en,aF C5 i=some en->en.ok ρ (Un S ρ C5) w (ρ i)
 lt:∀i en b,aF C5 i=some en->mS (ρ i) b->b<w.heap.size
 apart:∀i en b,aF C5 i=some en->mS (ρ i) b->¬S b
 inj:∀i j en en' b,aF C5 i=some en->aF C5 j=some en'->mS (ρ i) b->mS (ρ j) b->i=j
structure xi (S:Nat->Prop) (R:Nat->Prop) (w0:aAf) (res:Slot) (u5:List (Nat×j2)) (ρ:Nat->LV) (v:aA4) (w:aAf):Prop where
 size:w0.heap.size<=w.heap.size
 frame:∀k,k<w0.heap.size->¬R k->w.heap[k]? =w0.heap[k]?
 os:w.os=w0.os
 tape:w.tape=w0.tape
 output:w.output=w0.output
 slot:res.ok ρ (Un S ρ u5) w v
 own:∀i en,aF u5 i=some en->en.ok ρ (Un S ρ u5) w (ρ i)
 fresh:∀i en b,aF u5 i=some en->mS (ρ i) b->(w0.heap.size<=b\/R b)/\b<w.heap.size
 apart:∀i en b,aF u5 i=some en->mS (ρ i) b->¬S b
 inj:∀i j en en' b,aF u5 i=some en->aF u5 j=some en'->mS (ρ i) b->mS (ρ j) b->i=j
def A3(P:aA5)(f:aA6)(args:List Slot)(C5:List (Nat×j2))(res:Slot)(u5:List (Nat×j2)):Prop:=∀S w vs ρ,(∀k,S k->k<w.heap.size)->Ins S ρ w C5->aG ρ (Un S ρ C5) w args vs->Calls P f vs.toArray w λe u=>∃v ρ',e= .returned v/\xi S (lF ρ C5) w res u5 ρ' v u
def rN(F:w8)(fn:Func)(res:Slot)(u5:List (Nat×j2)):aBd->aBe->aAf->Prop:=bodyPostM Fence.wide 0 F.P fn λe u=>∃v ρ',e= .returned v/\xi F.S0 F.R F.w0 res u5 ρ' v u
theorem A3.of{P:aA5}{f:aA6}{fn:Func}{c:aBb}{N:Nat}{args:List Slot}{C5:List (Nat×j2)}{res:Slot}{u5:List (Nat×j2)}(hf:P.funcs[f]? =some fn)(hb:fn.body=some c)(hN:fn.ntmps=N)(hle:Nat.ble args.length N=true)(h:∀S w R,bp ⟨P,N,S,w,R,none,[]⟩ ⟨P,N,S,w,R,none,[]⟩->W ⟨P,N,S,w,R,none,[]⟩ [c] ⟨enum 0 args,C5⟩ (rN ⟨P,N,S,w,R,none,[]⟩ fn res u5)):A3 P f args C5 res u5:=by
 intro S w vs ρ J0 T7 hv;refine(callsIn_wide (n:=0)).1 (callsIn_of_wp_marks hf hb trivial ?_);have G:=Ds hv;have hle:=gQ hle;have C:St ⟨P,N,S,w,lF ρ C5,none,[]⟩ ⟨enum 0 args,C5⟩ { tmps:=vs.toArray++Array.replicate (fn.ntmps - vs.toArray.size) undef,defers:=[] } w:= ?_
 ·have A:=h S w _ (.refl J0 rfl) _ w C;refine wpIn_mono A ?_;intro e a K D;cases e<;>exact D
 ·refine⟨⟨ρ,⟨J0,gC _,λ_ _ _=>rfl,rfl,rfl,rfl,T7.own,λi B b h hb=>⟨.inr ⟨i,B,h,hb⟩,T7.lt i B b h hb⟩,T7.inj,T7.apart⟩,λt s E=>?_⟩,?_,rfl⟩
  ·obtain⟨_,u,A,F⟩:=Ka args vs 0 hv t s E;have I:t<vs.length:=by
    rcases jl t vs.length with h | h
    ·exact h
    ·simp[zy h] at A
   have:(vs.toArray++Array.replicate (fn.ntmps - vs.toArray.size) undef).getD t undef=u:=by
    simp_all [aDn,aHc,Nat.sub_zero]
   rw[this];exact F
  ·simp only[aIb,aHp,aF8];show _=N;omega
theorem xi.O2{F:w8}{O:AS}{ρ:Nat->LV}{w:aAf}{v:aA4}{res:Slot}{u5:List (Nat×j2)}(hc:Core F O.d ρ w)(hr:res.ok ρ (Un F.S0 ρ O.d) w v)(hn:K5 u5 O.d):xi F.S0 F.R F.w0 res u5 ρ v w:=by
 have A:=hn.spec
 have C:Ext (Un F.S0 ρ O.d) (Un F.S0 ρ u5) w w:=⟨gC _,λk _ E=>⟨rfl,λh=>E (by
  rcases h with h |⟨i,u,L,M⟩
  ·exact .inl h
  ·exact .inr ⟨i,u,A i u L,M⟩)⟩⟩
 exact⟨hc.size,hc.frame,hc.os,hc.tape,hc.output,Slot.j5 res v hr C (λ_ _=>rfl),λi u h=>j2.j5 (hc.own i u (A i u h)) C (λ_ _=>rfl) (λ_ _=>rfl),
  λi u b h B=>hc.fresh i u b (A i u h) B,λi u b h B=>hc.apart i u b (A i u h) B,λi j u D b G I K bj=>hc.inj i j u D b (A i u G) (A j D I) K bj⟩
theorem Ts{P:aA5}{fn:Func}{a:aBe}{w:aAf}(N3:fn.results= #[]):(results fn a.tmps).run P w= .ok (.tuple #[]) w:=by simp_all [uC]
section
variable {fn:Func}{rv rv' rv2:ResultVar}{s' s2:Slot}{u5:List (Nat×j2)}
theorem Kn(hF:bp F F')(N3:fn.results= #[])(hn:K5 u5 O.d):XQ F' O (rN F fn (.q9 []) u5) .ret:=vP hF λρ a w u A=>⟨_,Ts N3,_,ρ,rfl,xi.O2 u (⟨[],rfl,rfl⟩) hn⟩
theorem jX(hF:bp F F')(N3:fn.results= #[rv])(h:RV F O rv res)(hn:K5 u5 O.d):XQ F' O (rN F fn res u5) .ret:=
 vP hF λρ a w u A=>by
  obtain⟨v,B,C⟩:=h ρ a w u A;exact⟨v,Te N3 B,v,ρ,rfl,xi.O2 u C hn⟩
theorem eC(hF:bp F F')(N3:fn.results= #[rv,rv'])(h:RV F O rv s)(h':RV F O rv' s')(hn:K5 u5 O.d):XQ F' O (rN F fn (.q9 [s,s']) u5) .ret:=
 vP hF λρ a w u A=>by
  obtain⟨v,B,C⟩:=h ρ a w u A;obtain⟨G,D,E⟩:=h' ρ a w u A;exact⟨_,Tf N3 B D,_,ρ,rfl,xi.O2 u (aBh C E) hn⟩
theorem JK(hF:bp F F')(N3:fn.results= #[rv,rv',rv2])(h:RV F O rv s)(h':RV F O rv' s')(h'':RV F O rv2 s2)(hn:K5 u5 O.d):XQ F' O (rN F fn (.q9 [s,s',s2]) u5) .ret:=
 vP hF λρ a w u A=>by
  obtain⟨v,B,C⟩:=h ρ a w u A;obtain⟨K,D,E⟩:=h' ρ a w u A;obtain⟨L,G,I⟩:=h'' ρ a w u A;exact⟨_,Tg N3 B D G,_,ρ,rfl,xi.O2 u (aBi C E I) hn⟩
end
inductive T3 (O:AS) (r:Nat->Nat) (A:Nat->Nat):List (Nat×j2)->Prop
 |nil:T3 O r A []
 |box {i:Nat} {T:aAg} {l:List Slot} {pb:Option Nat} {ds:List (Nat×j2)}:aF O.d (r i)=some (.box T (dB r l) pb)->T3 O r A ds->T3 O r A ((i,.box T l (some (A i)))::ds)
 |arr {α:Type} {i:Nat} {T:aAg} {e:Fu α} {xs:List α} {ds:List (Nat×j2)}:aF O.d (r i)=some (.arr T e xs)->T3 O r A ds->T3 O r A ((i,.arr T e xs)::ds)
 |mp {α β:Type} {i:Nat} {e:Fu α} {f:Fu β} {m:List (α×β)} {ds:List (Nat×j2)}:aF O.d (r i)=some (.mp e f m)->T3 O r A ds->T3 O r A ((i,.mp e f m)::ds)
 |dp {α:Type} {i:Nat} {D:DE α} {x:α} {l:List Nat} {ds:List (Nat×j2)}:aF O.d (r i)=some (.dp D x (l.map r))->T3 O r A ds->T3 O r A ((i,.dp D x l)::ds)
theorem T3.spec{O:AS}{r:Nat->Nat}{A:Nat->Nat}{ds:List (Nat×j2)}(h:T3 O r A ds){ρ:Nat->LV}{S:Nat->Prop}{w:aAf}(ho:∀i en,aF O.d i=some en->en.ok ρ S w (ρ i))(hA:∀i b,(ρ (r i)).v= .pointer (some ⟨b,0,none⟩)->A i=b):∀i en,aF ds i=some en->(∃E8,aF O.d (r i)=some E8)/\en.ok (λi=>ρ (r i)) S w (ρ (r i)):=by
 induction h with
 |nil=>intro i en h;simp[aF] at h
 |box u _ C=>
  rename_i j T l I ds _;intro i en h;rw[bA] at h;split at h
  ·rename_i B;subst B;cases h;have G:=ho _ _ u;refine⟨⟨_,u⟩,?_⟩;have E:((j2.box T l I).map r).ok ρ S w (ρ (r j)):=G;rw[Dv] at E;obtain⟨⟨b,cs,F,L,M⟩,_⟩:=E;exact⟨⟨b,cs,F,L,M⟩,λc K=>by cases K;rw[F,hA j b F]⟩
  ·exact C i en h
 |arr u _ C=>
  rename_i j T e xs ds _;intro i en h;rw[bA] at h;split at h
  ·rename_i B;subst B;cases h;exact⟨⟨_,u⟩,ho _ _ u⟩
  ·exact C i en h
 |mp u _ C=>
  rename_i j e f m ds _;intro i en h;rw[bA] at h;split at h
  ·rename_i B;subst B;cases h;exact⟨⟨_,u⟩,ho _ _ u⟩
  ·exact C i en h
 |dp u _ C=>
  rename_i j D x l ds _;intro i en h;rw[bA] at h;split at h
  ·rename_i B;subst B;cases h;refine⟨⟨_,u⟩,?_⟩;have E:((j2.dp D x l).map r).ok ρ S w (ρ (r j)):=ho _ _ u
   rwa [Dv] at E
  ·exact C i en h
def dK(l:Nat):List Nat->Bool | []=>false | i::r=>bif Nat.beq i l then true else dK l r
theorem iD{l:Nat}:∀{r:List Nat},dK l r=true↔l∈r
 | []=>by simp[dK]
 |i::r=>by
  simp only[dK];cases hb:Nat.beq i l with
  |true=>simp_all
  |false=>
   have:l≠i:=λe=>by simp_all
   simp[iD,this]
def Fx(a:Nat)(en E8:j2):Prop:=∀ρ ρ' S S' w w' u u',en.ok ρ' S' w' u'->E8.ok ρ S w u->(∀b,u.v= .pointer (some ⟨b,0,none⟩)->a=b)->u'.v=u.v
theorem Fx.box{a:Nat}{T T0:aAg}{m l0:List Slot}{pb:Option Nat}:Fx a (.box T m (some a)) (.box T0 l0 pb):=by
 rintro ρ ρ' S C w D u E h ⟨⟨b,cs,A,_⟩,_⟩ B;rw[h.2 a rfl,A,B b A]
inductive G2 (O:AS) (r:Nat->Nat) (A:Nat->Nat):List (Nat×j2)->List (Nat×j2)->List Nat->Prop
 |nil:G2 O r A [] [] []
 |box {i:Nat} {T T0:aAg} {l l0:List Slot} {pb:Option Nat} {ds D:List (Nat×j2)} {K:List Nat}:aF O.d (r i)=some (.box T0 l0 pb)->G2 O r A ds D K->dK (r i) K=false->G2 O r A ((i,.box T l (some (A i)))::ds) ((r i,.box T (dB r l) pb)::D) (r i::K)
 | Z0 {i:Nat} {T:aAg} {l:List Slot} {ds D:List (Nat×j2)} {K:List Nat}:G2 O r A ds D K->dK (r i) K=false->G2 O r A ((i,.box T l none)::ds) ((r i,.box T (dB r l) none)::D) K
 |arr {α:Type} {i:Nat} {T:aAg} {e:Fu α} {xs:List α} {ds D:List (Nat×j2)} {K:List Nat}:G2 O r A ds D K->dK (r i) K=false->G2 O r A ((i,.arr T e xs)::ds) ((r i,.arr T e xs)::D) K
 |mp {α β:Type} {i:Nat} {e:Fu α} {f:Fu β} {m:List (α×β)} {ds D:List (Nat×j2)} {K:List Nat}:G2 O r A ds D K->dK (r i) K=false->G2 O r A ((i,.mp e f m)::ds) ((r i,.mp e f m)::D) K
 |dp {α:Type} {i:Nat} {E:DE α} {x:α} {l:List Nat} {ds D:List (Nat×j2)} {K:List Nat}:G2 O r A ds D K->dK (r i) K=false->G2 O r A ((i,.dp E x l)::ds) ((r i,.dp E x (l.map r))::D) K
 |dh {α:Type} {i:Nat} {E:DE α} {x x0:α} {ds D:List (Nat×j2)} {K:List Nat}:aF O.d (r i)=some (.dp E x0 [])->(∀S S' w w' u u',E.ok x S' w' u' []->E.ok x0 S w u []->u'.v=u.v)->G2 O r A ds D K->dK (r i) K=false->G2 O r A ((i,.dp E x [])::ds) ((r i,.dp E x [])::D) (r i::K)
theorem G2.spec{O:AS}{r:Nat->Nat}{A:Nat->Nat}{ds D:List (Nat×j2)}{K:List Nat}(h:G2 O r A ds D K)(bL6:∀i j,r i=r j->i=j):(∀l en',aF D l=some en'->∃i en,l=r i/\aF ds i=some en/\(en'=en.map r\/∃T T0 m l0 pb,en= .box T m (some (A i))/\en'= .box T (dB r m) pb/\aF O.d (r i)=some (.box T0 l0 pb)))/\(∀i en,aF ds i=some en->∃en',aF D (r i)=some en')/\(∀k∈K,∃i en E8,k=r i/\aF ds i=some en/\aF O.d k=some E8/\Fx (A i) en E8):=by
 have step:∀{i:Nat} {en en':j2} {ds D:List (Nat×j2)},((∀l en',aF D l=some en'->∃i en,l=r i/\aF ds i=some en/\(en'=en.map r\/∃T T0 m l0 pb,en= .box T m (some (A i))/\en'= .box T (dB r m) pb/\aF O.d (r i)=some (.box T0 l0 pb)))/\(∀i en,aF ds i=some en->∃en',aF D (r i)=some en'))->
   (en'=en.map r\/∃T T0 m l0 pb,en= .box T m (some (A i))/\en'= .box T (dB r m) pb/\aF O.d (r i)=some (.box T0 l0 pb))->
   ((∀l E8,aF ((r i,en')::D) l=some E8->∃j G,l=r j/\aF ((i,en)::ds) j=some G/\(E8=G.map r\/∃T T0 m l0 pb,G= .box T m (some (A j))/\E8= .box T (dB r m) pb/\aF O.d (r j)=some (.box T0 l0 pb)))/\
    (∀j G,aF ((i,en)::ds) j=some G->∃E8,aF ((r i,en')::D) (r j)=some E8)):=by
  rintro i en en' ds D ⟨ab,ac⟩ hh;refine⟨λl E8 L=>?_,λj G Q=>?_⟩
  ·rw[bA] at L;split at L
   ·rename_i N;subst N;cases L;exact⟨i,en,rfl,by rw[bA,sM rfl],hh⟩
   ·rename_i N;obtain⟨j,G,rfl,k2,k3⟩:=ab l E8 L;exact⟨j,G,rfl,by rw[bA,nS (λe=>N (by rw[e]))];exact k2,k3⟩
  ·rw[bA] at Q;split at Q
   ·rename_i P;subst P;exact⟨en',by rw[bA,sM rfl]⟩
   ·rename_i P;obtain⟨E8,h0⟩:=ac j G Q;exact⟨E8,by rw[bA,nS (λe=>P (bL6 _ _ e))];exact h0⟩
 have I:∀{i:Nat} {en:j2} {ds:List (Nat×j2)} {K:List Nat},dK (r i) K=false->(∀k∈K,∃i en E8,k=r i/\aF ds i=some en/\aF O.d k=some E8/\Fx (A i) en E8)->∀k∈K,∃j e E8,k=r j/\aF ((i,en)::ds) j=some e/\aF O.d k=some E8/\Fx (A j) e E8:=by
  intro i en ds K C B k F;obtain⟨j,e,E8,rfl,h,R⟩:=B k F;have U:i≠j:=λe=>by subst e;rw[iD.2 F] at C;cases C
  exact⟨j,e,E8,rfl,by rw[bA,nS U];exact h,R⟩
 induction h with
 |nil=>exact⟨λl en h=>by simp[aF] at h,λi en h=>by simp[aF] at h,λk h=>by simp at h⟩
 |box M _ C B=>
  rename_i i T T0 l l0 pb ds D K _;obtain⟨a,b⟩:=step (i:=i) (en:= .box T l (some (A i))) (en':= .box T (dB r l) pb) ⟨B.1,B.2.1⟩ (.inr ⟨T,T0,l,l0,pb,rfl,rfl,M⟩);refine⟨a,b,λk F=>?_⟩;rcases sK.1 F with rfl | F
  ·exact⟨i,_,_,rfl,by rw[bA,sM rfl],M,.box⟩
  ·exact I C B.2.2 k F
 | Z0 _ C B=>
  rename_i i T l ds D K _;obtain⟨a,b⟩:=step (i:=i) (en:= .box T l none) (en':= .box T (dB r l) none) ⟨B.1,B.2.1⟩ (.inl rfl);exact⟨a,b,I C B.2.2⟩
 |arr _ C B=>
  rename_i α i T e xs ds D K _;obtain⟨a,b⟩:=step (i:=i) (en:= .arr T e xs) (en':= .arr T e xs) ⟨B.1,B.2.1⟩ (.inl rfl);exact⟨a,b,I C B.2.2⟩
 |mp _ C B=>
  rename_i α β i e f m ds D K _;obtain⟨a,b⟩:=step (i:=i) (en:= .mp e f m) (en':= .mp e f m) ⟨B.1,B.2.1⟩ (.inl rfl);exact⟨a,b,I C B.2.2⟩
 |dp _ C B=>
  rename_i α i E x l ds D K _;obtain⟨a,b⟩:=step (i:=i) (en:= .dp E x l) (en':= .dp E x (l.map r)) ⟨B.1,B.2.1⟩ (.inl rfl);exact⟨a,b,I C B.2.2⟩
 |dh M hx _ C B=>
  rename_i α i E x x0 ds D K _;obtain⟨a,b⟩:=step (i:=i) (en:= .dp E x []) (en':= .dp E x []) ⟨B.1,B.2.1⟩ (.inl rfl);refine⟨a,b,λk F=>?_⟩;rcases sK.1 F with rfl | F
  ·exact⟨i,_,_,rfl,by rw[bA,sM rfl],M,λρ ρ' S V w X u u' h R _=>hx S V w X u u' (by simpa[j2.ok] using h) (by simpa[j2.ok] using R)⟩
  ·exact I C B.2.2 k F
def gS(d:List (Nat×j2)):List Nat->List (Nat×j2) | []=>d | i::H=>rC (gS d H) i
theorem qO{d:List (Nat×j2)}{k:Nat}:∀{H:List Nat},aF (gS d H) k=if k∈H then none else aF d k
 | []=>rfl
 |i::H=>by
  rw[gS,Dx];by_cases h:k=i
  ·simp[h]
  ·rw[qO];grind
def xT(g:List (Nat×Slot))(rest:List (Nat×j2))(H K:List Nat)(D:List (Nat×j2)):Bool:=(g.all λy=>y.2.E1.all λl=> !dK l H || dK l K || !dK l (D.map (·.1))) && rest.all λy=>y.2.E1.all λl=> !dK l H || dK l K || !dK l (D.map (·.1))
def Ko(O:AS)(H:List Nat)(D:List (Nat×j2)):Bool:=D.all λx=>dK x.1 H || ((O.d.all λy=> !Nat.beq y.1 x.1 && !dK x.1 y.2.E1) && O.g.all λy=> !dK x.1 y.2.E1)
inductive T4 (O:AS) (r:Nat->Nat):List aAp->List Slot->Prop
 |nil:T4 O r [] []
 |cons {x:aAp} {s:Slot} {xs:List aAp} {l:List Slot}:Arg O false x (s.map r)->T4 O r xs l->T4 O r (x::xs) (s::l)
theorem T4.spec{O:AS}{r:Nat->Nat}{xs:List aAp}{l:List Slot}(h:T4 O r xs l){ρ S a w}{ys:Array aAp}(zm:∀x∈xs,x∈ys)(K:M4 O ys ρ S a w):aG (λi=>ρ (r i)) S w l (xs.map a.eval):=by
 induction h with
 |nil=>simp[aG]
 |cons A _ B=>
  refine⟨_,_,rfl,?_,(by grind)⟩;rw[<-Kf];exact A ρ S a w ⟨K.low,λy u=>K.slot y (by grind),λy u=>K.U4 y (by grind)⟩
def O3(v:aA4):Nat:=match v with | .pointer (some a)=>a.block | _=>0
section
variable {d:Option Tmp}
theorem St.M0{ρ ρ':Nat->LV}{r:Nat->Nat}{A:Nat->Nat}{a:aBe}{w w':aAf}{v:aA4}{res:Slot}{C5 u5 D:List (Nat×j2)}{K H:List Nat}(hr:∀i j,r i=r j->i=j)(hc:Core F O.d ρ w)(hs:∀t s,lk O.g t=some s->s.ok ρ (Un F.S0 ρ O.d) w (a.tmps.getD t undef))(hz:a.tmps.size=F.N)(G6:a.defers=F.df)(hA:∀i b,(ρ (r i)).v= .pointer (some ⟨b,0,none⟩)->A i=b)(T7:T3 O r A C5)(V8:G2 O r A u5 D K)(hH:C5.map (λx=>r x.1)=H)(D9:xT O.g (gS O.d H) H K D=true)(kz:Ko O H D=true)(D6:gH res u5=true)(xu:K.all (λk=>dK k H)=true)(J2:eR d F.N=true)(ho:xi (λk=>Un F.S0 ρ O.d k/\¬lF (λi=>ρ (r i)) C5 k) (lF (λi=>ρ (r i)) C5) w res u5 ρ' v w'):St F ⟨gL d (res.map r) O.g,D++gS O.d H⟩ (a.put d v) w':=by
 obtain⟨ab,a4,a5⟩:=V8.spec hr;have ak:=T7.spec hc.own hA;have al:∀i en,aF C5 i=some en->r i∈H:=λi en h=>by rw[<-hH];exact ot.2 ⟨(i,en),lH h,rfl⟩
 have an:∀l,l∈H->∃i en,l=r i/\(i,en)∈C5:=λl h=>by rw[<-hH] at h;obtain⟨x,C,B⟩:=ot.1 h;exact⟨x.1,x.2,B.symm,C⟩
 have a9:∀l,l∈H->∃i en,l=r i/\aF C5 i=some en:=λl h=>by
  obtain⟨i,en,C,B⟩:=an l h;cases hx:aF C5 i with
  |some e=>exact⟨i,e,C,hx⟩
  |none=>
   exfalso;clear T7 ak hH ho al an
   induction C5 with
   |nil=>simp at B
   |cons y C5 ih=>
    obtain⟨j,ej⟩:=y;rw[bA] at hx;split at hx
    ·cases hx
    ·rename_i ny;rcases sK.1 B with B | B
     ·simp at B;exact ny B.1.symm
     ·exact ih B hx
 have I1:∀k,lF (λi=>ρ (r i)) C5 k->∃l en,l∈H/\aF O.d l=some en/\mS (ρ l) k:=by
  rintro k ⟨i,en,C,B⟩;obtain⟨⟨E8,u⟩,_⟩:=ak i en C;exact⟨r i,E8,al i en C,u,B⟩
 have ao:∀k,lF (λi=>ρ (r i)) C5 k->Un F.S0 ρ O.d k:=λk h=>by obtain⟨l,en,_,C,B⟩:=I1 k h;exact .inr ⟨l,en,C,B⟩
 have L6:∀l en k,l∉H->aF O.d l=some en->mS (ρ l) k->¬lF (λi=>ρ (r i)) C5 k:=by
  intro l en k S C B u;obtain⟨P,E,G,I,M⟩:=I1 k u;exact S (hc.inj l P en E k C I B M ▸ G)
 classical
 let ρn:Nat->LV:=λl=>if h:∃i,l=r i/\(aF u5 i).isSome=true then ρ' (Classical.choose h) else ρ l
 have U:∀i en,aF u5 i=some en->ρn (r i)=ρ' i:=by
  intro i en h;have af:∃j,r i=r j/\(aF u5 j).isSome=true:=⟨i,rfl,by rw[h];rfl⟩;show (if h:∃j,r i=r j/\(aF u5 j).isSome=true then ρ' (Classical.choose h) else ρ (r i))=_;rw[dif_pos af];have:=aHz af;rw[<-hr _ _ this.1]
 have zp:∀l,(∀en,aF D l≠some en)->ρn l=ρ l:=by
  intro l h;have af:¬∃i,l=r i/\(aF u5 i).isSome=true:=by
   rintro⟨i,rfl,B⟩;cases hx:aF u5 i with
   |none=>rw[hx] at B;cases B
   |some en=>obtain⟨E,u⟩:=a4 i en hx;exact h _ u
  show (if h:∃i,l=r i/\(aF u5 i).isSome=true then ρ' (Classical.choose h) else ρ l)=_;rw[dif_neg af]
 have hK:∀l,l∈K->(ρn l).v=(ρ l).v:=by
  intro l S;obtain⟨i,en,E8,rfl,C,B,u⟩:=a5 l S;rw[U i _ C];exact u _ _ _ _ _ _ _ _ (ho.own i _ C) (hc.own _ _ B) (hA i)
 have ax:∀l,dK l (D.map (·.1))=false->∀en,aF D l≠some en:=λl h en V=>by
  have C:l∈D.map (·.1):=ot.2 ⟨(l,en),lH V,rfl⟩;rw[iD.2 C] at h;cases h
 have N4:∀(q:Slot),(q.E1.all λl=> !dK l H || dK l K || !dK l (D.map (·.1)))=true->(∀l∈q.E1,aF D l=none\/dK l H=true)->lE ρ ρn q.E1:=by
  intro q C B l S;rcases B l S with u | u
  ·exact congrArg LV.v (zp l λen V=>by rw[u] at V;cases V)
  ·have:=nE.1 C l S;rw[u] at this;cases hm:dK l (D.map (·.1)) with
   |false=>exact congrArg LV.v (zp l (ax l hm))
   |true=>rw[hm] at this;exact hK l (iD.1 (by simpa using this))
 have aj:∀l en,aF D l=some en->dK l H=true\/((∀y∈O.d,y.1≠l/\l∉y.2.E1)/\∀y∈O.g,l∉y.2.E1):=by
  intro l en h;have:=nE.1 kz _ (lH h);rcases Bool.or_eq_true_iff.1 this with h | h
  ·exact .inl h
  ·rw[bm,nE,nE] at h;refine .inr ⟨λy hy=>?_,λy hy lj=>?_⟩
   ·have u:=h.1 y hy;rw[bm] at u;refine⟨λe=>?_,λlj=>?_⟩
    ·have:=u.1;rw[e] at this;simp at this
    ·have:=u.2;rw[iD.2 lj] at this;cases this
   ·have:=h.2 y hy;rw[iD.2 lj] at this;cases this
 simp only[xT,bm,nE] at D9;have ay:∀t s,lk O.g t=some s->lE ρ ρn s.E1:=by
  intro t s Q;refine N4 s (nE.2 (D9.1 _ (Jz Q))) λl S=>?_;cases hx:aF D l with
  |none=>exact .inl rfl
  |some en=>
   rcases aj l en hx with h |⟨_,h⟩
   ·exact .inr h
   ·exact absurd S (h _ (Jz Q))
 have kv:∀l en,l∉H->aF O.d l=some en->ρn l=ρ l/\lE ρ ρn en.E1:=by
  intro l en S h;refine⟨zp l λE V=>?_,?_⟩
  ·rcases aj l E V with R |⟨R,_⟩
   ·exact S (iD.1 R)
   ·exact(R _ (lH h)).1 rfl
  ·have D3:(l,en)∈gS O.d H:=lH (by rw[qO,nS S];exact h);have:=D9.2 _ D3;intro q hq;have C:=this q hq;cases hx:aF D q with
   |none=>exact congrArg LV.v (zp q λen V=>by rw[hx] at V;cases V)
   |some E=>
    rcases aj q E hx with R |⟨R,_⟩
    ·have Z8:q∈D.map (·.1):=ot.2 ⟨(q,E),lH hx,rfl⟩;rw[R,iD.2 Z8] at C;exact hK q (iD.1 (by simpa using C))
    ·exact absurd hq (R _ (lH h)).2
 have ld:∀l en,aF (D++gS O.d H) l=some en->aF D l=some en\/(aF D l=none/\l∉H/\aF O.d l=some en):=by
  intro l en h;rw[gB] at h;cases hx:aF D l with
  |some e=>rw[hx] at h;simp at h;subst h;exact .inl rfl
  |none=>
   rw[hx] at h;simp only[Option.none_or,qO] at h;split at h
   ·cases h
   ·rename_i hn;exact .inr ⟨rfl,hn,h⟩
 have ap:∀k,Un F.S0 ρn (D++gS O.d H) k->Un (λk=>Un F.S0 ρ O.d k/\¬lF (λi=>ρ (r i)) C5 k) ρ' u5 k:=by
  rintro k (h |⟨l,en,C,B⟩)
  ·refine .inl ⟨.inl h,λR=>?_⟩;obtain⟨l,en,_,u,G⟩:=I1 k R;exact hc.apart l en k u G h
  ·rcases ld l en C with u |⟨_,u,G⟩
   ·obtain⟨i,E,rfl,I,_⟩:=ab l en u;rw[U i E I] at B;exact .inr ⟨i,E,I,B⟩
   ·rw[(kv l en u G).1] at B;exact .inl ⟨.inr ⟨l,en,G,B⟩,L6 l en k u G B⟩
 have az:∀k,k<w.heap.size->Un (λk=>Un F.S0 ρ O.d k/\¬lF (λi=>ρ (r i)) C5 k) ρ' u5 k->Un F.S0 ρ O.d k:=by
  rintro k X (h |⟨i,en,C,B⟩)
  ·exact h.1
  ·rcases (ho.fresh i en k C B).1 with h | h
   ·omega
   ·exact ao k h
 have aq:Ext (Un (λk=>Un F.S0 ρ O.d k/\¬lF (λi=>ρ (r i)) C5 k) ρ' u5) (Un F.S0 ρn (D++gS O.d H)) w' w':=⟨gC _,λk _ X=>⟨rfl,λh=>X (ap k h)⟩⟩;have hE:Ext (Un F.S0 ρ O.d) (Un F.S0 ρn (D++gS O.d H)) w w':=⟨ho.size,λk X hn=>⟨ho.frame k X (λh=>hn (ao k h)),λh=>hn (az k X (ap k h))⟩⟩;simp only[gH,bm,nE] at D6;have th:∀i en,aF u5 i=some en->lE ρ' (λi=>ρn (r i)) en.E1:=by
  intro i en h j hj;have:=D6.2 _ (lH h) j hj;cases hx:aF u5 j with
  |none=>rw[hx] at this;cases this
  |some e=>exact congrArg LV.v (U j e hx)
 have a0:Core F (D++gS O.d H) ρn w':=by
  refine⟨hc.low,eo hc.size ho.size,λk X aw=>?_,ho.os.trans hc.os,ho.tape.trans hc.tape,ho.output.trans hc.output,λl en h=>?_,λl en b h L=>?_,λl P en E b h R L C1=>?_,λl en b h L=>?_⟩
  ·rw[ho.frame k (gn X hc.size) (λh=>?_)]
   ·exact hc.frame k X aw
   ·obtain⟨l,en,_,C,B⟩:=I1 k h;rcases (hc.fresh l en k C B).1 with u | u
    ·omega
    ·exact aw u
  ·rcases ld l en h with u |⟨_,u,G⟩
   ·obtain⟨i,E,rfl,I,M⟩:=ab l en u;have h7:=j2.j5 (ρ':=λi=>ρn (r i)) (ho.own i E I) aq (th i E I) (λ_ _=>rfl);rw[U i E I];rcases M with M |⟨T,T0,m,l0,pb,h8,h9,iy⟩
    ·rw[M,Dv];exact h7
    ·subst h8 h9;obtain⟨a6,a7⟩:=h7;have a1:((j2.box T m none).map r).ok ρn (Un F.S0 ρn (D++gS O.d H)) w' (ρ' i):=(by rw[Dv];exact⟨a6,λc hc=>by cases hc⟩);refine⟨a1.1,λc a3=>?_⟩;obtain⟨_,a8⟩:=hc.own _ _ iy;have a2:=a8 c a3;rw[a7 (A i) rfl,hA i c a2]
   ·obtain⟨I,M⟩:=kv l en u G;rw[I];exact j2.j5 (hc.own l en G) hE M (λb L=>ho.frame b (hc.fresh l en b G L).2 (L6 l en b u G L))
  ·rcases ld l en h with u |⟨_,u,G⟩
   ·obtain⟨i,E,rfl,I,_⟩:=ab l en u;rw[U i E I] at L;obtain⟨M,h7⟩:=ho.fresh i E b I L;refine⟨?_,h7⟩;rcases M with M | M
    ·exact .inl (eo hc.size M)
    ·obtain⟨P,e',_,h8,h9⟩:=I1 b M;exact(hc.fresh P e' b h8 h9).1
   ·rw[(kv l en u G).1] at L;exact⟨(hc.fresh l en b G L).1,gn (hc.fresh l en b G L).2 ho.size⟩
  ·have au:∀i vc l2 ai,aF u5 i=some vc->mS (ρ' i) b->l2∉H->aF O.d l2=some ai->mS (ρ l2) b->False:=by
    intro i vc l2 ai C B u G I;rcases (ho.fresh i vc b C B).1 with M | M
    ·have:=(hc.fresh l2 ai b G I).2;omega
    ·exact L6 l2 ai b u G I M
   rcases ld l en h with u |⟨_,u,G⟩
   ·obtain⟨i,e1,rfl,I,_⟩:=ab l en u;rw[U i e1 I] at L;rcases ld P E R with zr |⟨_,zr,ae⟩
    ·obtain⟨i',ac,rfl,ad,_⟩:=ab P E zr;rw[U i' ac ad] at C1;rw[ho.inj i i' e1 ac b I ad L C1]
    ·rw[(kv P E zr ae).1] at C1;exact(au i e1 P E I L zr ae C1).elim
   ·rw[(kv l en u G).1] at L;rcases ld P E R with zr |⟨_,zr,ae⟩
    ·obtain⟨i',ac,rfl,ad,_⟩:=ab P E zr;rw[U i' ac ad] at C1;exact(au i' ac l en ad C1 u G L).elim
    ·rw[(kv P E zr ae).1] at C1;exact hc.inj l P en E b G ae L C1
  ·rcases ld l en h with u |⟨_,u,G⟩
   ·obtain⟨i,E,rfl,I,_⟩:=ab l en u;rw[U i E I] at L;intro M;refine ho.apart i E b I L ⟨.inl M,λh7=>?_⟩;obtain⟨P,e',_,h8,h9⟩:=I1 b h7;exact hc.apart P e' b h8 h9 M
   ·rw[(kv l en u G).1] at L;exact hc.apart l en b G L
 refine⟨⟨ρn,a0,λt q Q=>?_⟩,by rw[kC,hz],by cases d<;>exact G6⟩;have av:∀t q,lk O.g t=some q->q.ok ρn (Un F.S0 ρn (D++gS O.d H)) w' (a.tmps.getD t undef):=λt q Q=>Slot.j5 q _ (hs t q Q) hE (ay t q Q);cases d with
 |none=>exact av t q Q
 |some q0=>
  simp only[gL] at Q;have B0:q0<a.tmps.size:=by rw[hz];exact gQ J2
  rw[kD a q0 v t B0];rw[kF] at Q;split at Q
  ·rename_i C;cases Q;rw[sM C,Kf];refine Slot.j5 res v ho.slot aq λj hj=>?_;have:=D6.1 j hj;cases hx:aF u5 j with
   |none=>rw[hx] at this;cases this
   |some e=>exact congrArg LV.v (U j e hx)
  ·rename_i C;rw[nS C];exact av t q Q
theorem vA{f:aA6}{xs:List aAp}{ts:Array aAg}{ss:List Slot}{res:Slot}{C5 u5:(Nat->Nat)->List (Nat×j2)}{D:List (Nat×j2)}{K H:List Nat}(r:Nat->Nat)(hr:∀i j,r i=r j->i=j)(hc:∀A,A3 F.P f ss (C5 A) res (u5 A))(B5:∀args w,(callFunc f args).run F.P w= .ok (.enter f args) w)(ha:T4 O r xs ss)(T7:∀A,T3 O r A (C5 A))(V8:∀A,G2 O r A (u5 A) D K)(hH:∀A,(C5 A).map (λx=>r x.1)=H)(D9:xT O.g (gS O.d H) H K D=true)(kz:Ko O H D=true)(D6:∀A,gH res (u5 A)=true)(xu:K.all (λk=>dK k H)=true)(J2:eR d F.N=true):JM F ⟨d,.call ⟨.value (.func f),xs.toArray,ts⟩,ty,p,af,gd⟩ O ⟨gL d (res.map r) O.g,D++gS O.d H⟩:=by
 rintro a w ⟨⟨ρ,B,S⟩,hz,G6⟩;let A:Nat->Nat:=λi=>O3 (ρ (r i)).v
 have Q:∀i b,(ρ (r i)).v= .pointer (some ⟨b,0,none⟩)->A i=b:=λi b h=>by show O3 (ρ (r i)).v=b;rw[h];rfl
 have hd:=(T7 A).spec B.own Q;have T:∀k,(Un F.S0 ρ O.d k/\¬lF (λi=>ρ (r i)) (C5 A) k)->k<w.heap.size:=by
  rintro k ⟨h |⟨i,u,L,M⟩,_⟩
  ·exact gn (B.low k h) B.size
  ·exact(B.fresh i u k L M).2
 have R:Un (λk=>Un F.S0 ρ O.d k/\¬lF (λi=>ρ (r i)) (C5 A) k) (λi=>ρ (r i)) (C5 A)=Un F.S0 ρ O.d:=by
  funext k;refine propext ⟨λh=>?_,λh=>?_⟩
  ·rcases h with h |⟨i,u,L,M⟩
   ·exact h.1
   ·obtain⟨⟨I,C⟩,_⟩:=hd i u L;exact .inr ⟨r i,I,C,M⟩
  ·by_cases E:lF (λi=>ρ (r i)) (C5 A) k
   ·exact .inr E
   ·exact .inl ⟨h,E⟩
 have U:Ins (λk=>Un F.S0 ρ O.d k/\¬lF (λi=>ρ (r i)) (C5 A) k) (λi=>ρ (r i)) w (C5 A):=by
  refine⟨λi u h=>?_,λi u b h G=>?_,λi u b h G X=>X.2 ⟨i,u,h,G⟩,λi j u ab b hi hj bi bj=>?_⟩
  ·rw[R];exact(hd i u h).2
  ·obtain⟨⟨I,C⟩,_⟩:=hd i u h;exact(B.fresh _ _ b C G).2
  ·obtain⟨⟨I,C⟩,_⟩:=hd i u hi;obtain⟨⟨vc,h4⟩,_⟩:=hd j ab hj;exact hr _ _ (B.inj _ _ _ _ b C h4 bi bj)
 have K:=aY B S (Op.call ⟨.value (.func f),xs.toArray,ts⟩).operands;have V:=ha.spec (ys:=(Op.call ⟨.value (.func f),xs.toArray,ts⟩).operands) (λx hx=>by simp[Op.operands,Call.operands,hx]) K;refine j6.enter (pW B5) ((hc A _ w _ _ T U (by rw[R];exact V)).mono ?_);rintro e w' ⟨v,ρ',rfl,E⟩;exact⟨v,rfl,St.M0 hr B S hz G6 Q (T7 A) (V8 A) (hH A) D9 kz (D6 A) xu J2 E⟩
end
def sw2(a b i:Nat):Nat:=bif Nat.beq i a then b else bif Nat.beq i b then a else i
def Sz:List (Nat×Nat)->Nat->Nat | [],i=>i | (a,b)::l,i=>Sz l (sw2 a b i)
theorem QW(a b i:Nat):sw2 a b (sw2 a b i)=i:=by
 grind [sw2,Nat.beq,Nat.eq_of_beq_eq_true,Nat.beq_refl]
theorem mH:∀(l:List (Nat×Nat)) (i j:Nat),Sz l i=Sz l j->i=j
 | [],_,_,h=>h
 | (a,b)::l,i,j,h=>by
  have:=mH l _ _ h
  grind [QW]
end Go.Sw
