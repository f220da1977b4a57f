/- The functions come to what their models come to. Conditions: none. -/
import Derived.Test.YthpkohijooimbaaGreatDoorMEConsoleSays
import Derived.Shelf.Lays
import Derived.Shelf.LaysM
import Derived.KernelRfl
import Derived.Test.YthpkohijooimbaaGreatDoorProg
import Derived.Shelf.Strings.SlTrimAscii
import Derived.Shelf.Strings.Split
import Derived.Shelf.Strings.OnBuilder
import Derived.Shelf.Strconv.Itoa3
import Derived.Shelf.Strconv.Atoi
import Derived.Shelf.Small.Strs
import Derived.Shelf.Strings.Prefix
import Derived.Lib.ItoaLen
import Derived.Lib.AppendIntMem
import Derived.Lib.Builder
import Derived.WalkKit
import Derived.BigCall
import Derived.BigGuard
import Derived.Shelf.Strings.Builder1
import Derived.RangeFuncNested
import Derived.RangeFuncBound
import Derived.RangeFuncCalls
import Derived.RangeFuncLeaves
import Derived.Shelf.Abstract
import Derived.Shelf.RegionOpen
import Derived.OwnWalkIn
import Derived.TacticsInMore
import Derived.LoopNIn
import Derived.LoopIn
import Derived.Test.YthpkohijooimbaaGreatDoorChecked
import Derived.LaidEql
import Derived.Stop.Asserts
import Derived.RowKitTokens
set_option linter.unusedVariables false
set_option linter.unusedSimpArgs false
namespace Go.Cn
open Go Go.Proofs Go.Shelf
def pk:List (Nat×Nat)->Nat->Nat | [],n=>n | (a,b)::r,n=>bif Nat.beq a n then b else pk r n
def IJ:Ren:=⟨pk [(160,67),(232,89),(231,88),(227,90),(234,92),(233,91),(236,94),(235,93),(228,121),(271,123),(151,122),(197,63),(120,149),(152,148),(260,84),(137,14),(119,192),(224,86),(225,85),(217,31),(266,49),(172,68),(244,95),(245,96),(247,124),(279,125),(280,126),(281,127),(282,128),(287,150),(316,151),(171,17),(205,152),(321,193),(322,194),(243,39),(246,61),(283,80),(284,81),(285,82),(286,83),(129,116),(317,115),(318,117),(319,118),(320,119),(337,146),(338,147),(156,59),(165,79),(166,16),(169,10),(240,38),(241,114),(276,60),(277,145),(102,9),(209,19),(207,43),(146,8),(221,18),(268,40),(138,41),(143,42),(195,62),(218,64),(219,65),(267,87),(314,120)],pk [(117,182),(116,181),(124,185),(105,123),(46,126),(119,223),(139,226),(138,225),(75,53),(76,54),(167,231),(37,26),(85,232),(168,234),(53,81),(175,268),(210,271),(127,61),(145,314),(143,312),(171,173),(173,176),(212,218),(51,219),(213,220),(232,308),(233,309),(80,39),(31,36),(72,28),(70,25),(164,119),(146,227)],pk [(15,4),(16,5),(17,1),(18,7),(19,8),(1,0),(3,2),(4,3)]⟩
set_option maxRecDepth 100000 in
theorem aE9:Lays.n160 Tryz.prog IJ:=by constructor<;>first | kernel_rfl | (intro w;kernel_rfl)
theorem aFa:Lays.n172 Tryz.prog IJ:=by constructor<;>first | kernel_rfl | (intro w;kernel_rfl)
theorem aSb:Lays.n156 Tryz.prog IJ:=by constructor<;>first | kernel_rfl | (intro w;kernel_rfl)
theorem aO4:Lays.n171 Tryz.prog IJ:=by constructor<;>first | kernel_rfl | (intro w;kernel_rfl)
theorem ZI:Lays.n137 Tryz.prog IJ:=by constructor<;>first | kernel_rfl | (intro w;kernel_rfl)
theorem bP0:Lays.n169 Tryz.prog IJ:=by constructor<;>first | kernel_rfl | (intro w;kernel_rfl)
theorem aFb:Lays.n102 Tryz.prog IJ:=by constructor<;>first | kernel_rfl | (intro w;kernel_rfl)
theorem aFc:Lays.n146 Tryz.prog IJ:=by constructor<;>first | kernel_rfl | (intro w;kernel_rfl)
theorem aSa:LaysM.n171 Tryz.prog IJ:=by constructor;exact aO4;all_goals kernel_rfl
section
open Go.Sw Go.RowKit
abbrev ET:Nat:=57
theorem No{a:List Int}{S ρ w u}(h:(Slot.v Fu.str a).ok ρ S w u):u= .string (jE a)/\C2 a/\a.length<=9223372036854775807:=by simp only[Slot.ok] at h;exact tD.1 h
theorem Hi{a0 a1 r:List Int}(h:Lh a0 a1=some r):O4 Tryz.prog 67 [.v Fu.str a0,.v Fu.str a1] (.v Fu.str r) []:=by
 unfold Lh at h;split at h<;>cases h;rename_i B;refine O4.back λS w vs ρ _ G=>?_;obtain⟨u,N,rfl,I,K⟩:=FP G;obtain⟨rfl,O,D⟩:=No I;obtain⟨rfl,L,P⟩:=No K;refine(Any.strings_Trim_laid aE9 (by kernel_rfl) (jE a0) (jE a1) w (by rw[gN];exact D) (by rw[gN];exact B.1) ?_).mono ?_
 ·intro j b C;rw[sC,ub,ze,aHy] at C;obtain⟨x,E,rfl⟩:=C;have:=B.2 x (aEd E);have:=L x (aEd E);rw[aHn];omega
 rintro e Q ⟨rfl,M⟩;refine⟨_,rfl,M,?_⟩;rw[sC,sC,<-Oz];refine Ei ?_ _ _ _;have A:∀(p:UInt8->Bool) (l:List UInt8),(l.dropWhile p).length<=l.length:=λp l=>(List.dropWhile_suffix p).sublist.length_le;have F:(Lib.trimS (ub a0) (ub a1)).length<=a0.length:=by
  unfold Lib.trimS Lib.trimLeftS Lib.trimRightS;refine eo (A _ _) ?_;rw[List.length_reverse];refine eo (A _ _) ?_;simp[ub]
 exact eo F D
theorem Ah{a:List Int}{c r:Int}(h:KW a c=some r):O4 Tryz.prog 14 [.v Fu.str a,.v (Fu.int .u8) c] (.v (Fu.int .i64) r) []:=by
 cases h;refine O4.back λS w vs ρ _ B=>?_;obtain⟨u,E,rfl,C,A⟩:=FP B;obtain⟨rfl,F,G⟩:=No C;simp only[Slot.ok] at A;obtain⟨rfl,_⟩:=lG.1 A;refine(Any.strings_IndexByte ZI (jE a) c w).mono ?_;rintro e I ⟨rfl,rfl⟩;refine⟨_,rfl,.refl _ _,?_⟩;rw[sC];refine pE ⟨?_,?_⟩ _ _ _
 ·have:=Lib.indexByte_ge (ub a) c.toNat.toUInt8;show (-9223372036854775808:Int)<=_;exact Int.le_trans (by omega) this
 ·have:∀(l:List UInt8) (c:UInt8),Lib.indexByte l c<=l.length:=by
   intro l c
   induction l with
   |nil=>simp[Lib.indexByte]
   |cons b l K=>unfold Lib.indexByte;split;simp;omega;split;simp;omega;simp;omega
  have:=this (ub a) c.toNat.toUInt8;have D:(ub a).length=a.length:=by simp[ub]
  show _<=(9223372036854775807:Int);exact Int.le_trans this (by omega)
theorem tW{a s r:List Int}(h:Pb a s=some r):O4 Tryz.prog 9 [.v Fu.str a,.v Fu.str s] (.v Fu.str r) []:=by
 cases h;refine O4.back λS w vs ρ _ B=>?_;obtain⟨u,E,rfl,C,D⟩:=FP B;obtain⟨rfl,F,A⟩:=No C;obtain⟨rfl,G,I⟩:=No D;refine(Any.strings_TrimSuffix aFb (jE a) (jE s) w (by rw[gN];exact A)).mono ?_;rintro e K ⟨rfl,rfl⟩;refine⟨_,rfl,.refl _ _,?_⟩;rw[sC,sC,<-Oz];refine Ei (eo ?_ A) _ _ _;show (Lib.trimSuffix (ub a) (ub s)).length<=_;unfold Lib.trimSuffix;split<;>simp[ub]
theorem Hj{a:List Int}{r:Int×Option Int}(h:Uk a=some r):O4 Tryz.prog 68 [.v Fu.str a] (.q9 [.v (Fu.int .i64) r.1,.v (Fu.err ET) r.2]) []:=by
 unfold Uk at h;split at h
 ·rename_i n B;split at h<;>cases h;rename_i A;refine O4.back λS w vs ρ _ C=>?_;obtain⟨u,rfl,E⟩:=RW C;obtain⟨rfl,F,G⟩:=No E;refine(Any.strconv_Atoi aFa (jE a) n (by rw[gN];exact A.1) (by rw[sC];exact B) w).mono ?_;rintro e I ⟨rfl,t,rfl⟩;refine⟨_,rfl,?_,?_⟩
  ·refine⟨rfl,rfl,rfl,?_,λk D=>?_⟩
   ·rw[Lib.bytesWorld_size];omega
   ·exact Lib.bytesWorld_at_old _ _ _ _ D
  ·simp only[Slot.ok,aG];exact⟨_,rfl,_,_,rfl,lG.2 ⟨rfl,A.2⟩,_,_,rfl,qM.2 rfl,rfl⟩
 ·cases h
theorem Fp{s r:List Int}(h:Yo s=some r):O4 Tryz.prog 6 [.v Fu.str s] (.G0 13 [.ptr 0 0]) [(0,.box 9 [.v Fu.str r])]:=by
 cases h;intro S w vs ρ hl hv;obtain⟨u,rfl,D⟩:=RW hv;obtain⟨rfl,E,F⟩:=No D;have B:Calls Tryz.prog 6 #[.string (jE s)] w λe A=>e= .returned (.func (.func 13) #[] #[.pointer (some ⟨w.heap.size,0,none⟩)])/\A=w.alloc (.cells #[.string (jE s)] 9):=by
  go_enter Tryz.func6,Tryz.ntmps6
  go_wp2
  go_ret
  exact⟨rfl,rfl⟩
 refine B.mono ?_;rintro e A ⟨rfl,rfl⟩;refine⟨_,rfl,wK (.pointer (some ⟨w.heap.size,0,none⟩)) (gO _ _) (by simp[j2.E1,bX,Slot.E1]) ?_ ?_ ?_⟩
 ·intro b h;simp only[E2,W6] at h;subst h;exact⟨gC _,by simp⟩
 ·intro C ρ' _ _;exact⟨⟨w.heap.size,[.string (jE s)],rfl,World.alloc_heap_new w _,[_],[],rfl,⟨rfl,E,F⟩,rfl⟩,λc h=>by cases h⟩
 ·intro C ρ' _ hi _;simp only[Slot.ok,aG];exact⟨[.pointer (some ⟨w.heap.size,0,none⟩)],rfl,_,_,rfl,⟨⟨w.heap.size,by rw[hi]⟩,by rw[hi];rfl⟩,rfl⟩
theorem Sp{v:aA4}{g:List Obj}{S ρ w}(hi:Ins S ρ w [(7777,.dp (aH v) g [])]):∀i,i<g.length->w.heap[i]? =g[i]? :=λi h=>((hi.own 7777 _ rfl).2 i h).1
theorem DT{g:List Obj}{i:Nat}{o:Obj}(h:g[i]? =some o){w:aAf}(hw:∀i,i<g.length->w.heap[i]? =g[i]?):w.heap[i]? =some o:=(hw i (aEi.1 h).1).trans h
theorem WY{g:List Obj}[GO g]{nm:String}(hn:Tryz.prog.globalNamed nm=some 1){w:aAf}(hw:∀i,i<g.length->w.heap[i]? =g[i]?):Lib.TabIs Tryz.prog w nm .u64 Lib.pow10Tab:=by
 obtain⟨T,h⟩:=GO.tab (o:=g);unfold Lib.TabIs World.var?;rw[hn,cA,DT h hw]
variable {v:aA4}{g:List Obj} [GO g]
theorem jD(_:Nat->Nat){n:Int}{r:List Int}(h:Ba n=some r):A3 Tryz.prog 17 [.v (Fu.int .i64) n] [(7777,.dp (aH v) g [])] (.v Fu.str r) [(7777,.dp (aH v) g [])]:=by
 cases h;refine A3.back λS w vs ρ _ D E=>?_;obtain⟨u,rfl,A⟩:=RW E;simp only[Slot.ok] at A;obtain⟨rfl,B,C⟩:=lG.1 A;refine(Any.strconv_Itoa aSa n B C w (WY aSa.m17 (Sp D))).mono ?_;rintro e F ⟨rfl,k,G,rfl⟩;refine⟨_,rfl,Lib.below_grow _ _ (gC _) _ _,?_⟩;rw[<-Oz];refine Ei (eo (Lib.itoa_length_le n B C) (by decide)) _ _ _
omit [GO g] in
theorem Qi(sep:ByteArray)(save:Nat):∀(k:Nat) (s x:ByteArray),x∈Lib.splitB sep save k s->x.size<=s.size
 | 0,s,x,h=>by rw[Lib.splitB_zero] at h;rw[aFf.1 h];exact gC _
 |k+1,s,x,h=>by
  unfold Lib.splitB at h;split at h
  ·rw[aFf.1 h];exact gC _
  ·rcases sK.1 h with rfl | h
   ·rw[ByteArray.size_extract];omega
   ·have:=Qi sep save k _ x h;rw[ByteArray.size_extract] at this;omega
omit [GO g] in
theorem Wz{S:Nat->Prop}{w:aAf}:∀(l:List ByteArray),(∀x∈l,x.size<=9223372036854775807)->Fu.str.H8 (l.map lb) S w (l.map Value.string)
 | [],_=>rfl
 |x::l,h=>⟨[.string x],l.map Value.string,rfl,⟨by rw[Qm],Ja _,by rw[Qn];exact h x kg⟩,Wz l λy u=>h y (kf _ u)⟩
theorem xM(_:Nat->Nat){a s:List Int}{r:List (List Int)}(h:Da a s=some r):A3 Tryz.prog 8 [.v Fu.str a,.v Fu.str s] [(7777,.dp (aH v) g [])] (.v (Fu.sl Fu.str) r) [(7777,.dp (aH v) g [])]:=by
 unfold Da at h;split at h<;>cases h;rename_i A;refine A3.back λS w vs ρ C D E=>?_;obtain⟨u,P,rfl,I,K⟩:=FP E;obtain⟨rfl,Q,R⟩:=No I;obtain⟨rfl,U,V⟩:=No K;obtain⟨m,T,X,L⟩:=GO.mx (o:=g);refine(Any.strings_Split aFc (by kernel_rfl) (jE a) (jE s) m w (by rw[gN];exact A.1) (show w.cell? ⟨0,0,none⟩=_ by rw[Lib.cell_of_heap (DT L (Sp D))];rfl) (by rw[gN];exact A.2)).mono ?_;rintro e w' ⟨rfl,rfl⟩;refine⟨_,rfl,gO _ _,?_⟩;have B:=Lib.splitB_all (jE s) (by rw[gN];exact A.2) 0 _ (jE a) rfl;have M:=Lib.countB_le (jE s) (by rw[gN];exact A.2) _ (jE a) (gC _);have N:=gN a;simp only[Slot.ok];refine lY.2 ⟨_,_,?_,⟨gC _,?_⟩,.inr ⟨w.heap.size,0,(Lib.splitB (jE s) 0 (Lib.countB (jE a) (jE s)) (jE a)).map Value.string,rfl,by simp,λF=>Nat.lt_irrefl _ (C _ F),⟨_,_,_,World.alloc_heap_new w _,λj O=>?_⟩,Wz _ λx G=>?_⟩⟩
 ·rw[sv,B]
 ·rw[sv,B];omega
 ·simp
 ·have:=Qi _ _ _ _ _ G;omega
theorem aO1:Builder.Extra Tryz.prog IJ:=by constructor;(constructor<;>kernel_rfl);all_goals first | kernel_rfl | (intro w;kernel_rfl) | decide
omit [GO g] in
theorem Xa{S:Nat->Prop}{w:aAf}:∀{l:List (List Int)} {ds:List aA4},Fu.str.H8 l S w ds->ds=l.map λx=>Value.string (jE x)
 | [],_,h=>h
 |x::l,ds,h=>by
  obtain⟨c,d,rfl,⟨rfl,_⟩,u⟩:=h;rw[Xa u];rfl
theorem yP{l:List (List Int)}{s r:List Int}(h:Pa l s=some r):O4 Tryz.prog 59 [.v (Fu.sl Fu.str) l,.v Fu.str s] (.v Fu.str r) []:=by
 unfold Pa at h;split at h<;>cases h;rename_i E;refine O4.back λS w vs ρ _ L=>?_;obtain⟨u,u',rfl,G,M⟩:=FP L;obtain⟨rfl,b2,l2⟩:=No M;simp only[Slot.ok] at G;obtain⟨N,I,rfl,⟨O,P⟩,Q⟩:=lY.1 G;have D:(l.map jE).map (·.data.toList)=l.map ub:=by rw[aHh];exact aGl λx _=>sC x
 have fin:∀A,Below w.heap.size w A->∃v,Ending.returned (Value.string ⟨(Lib.join (l.map ub) (ub s)).toArray⟩)= .returned v/\Below w.heap.size w A/\(Slot.v Fu.str (ui (Lib.join (l.map ub) (ub s)))).ok ρ S A v:=λA B=>by
  refine⟨_,rfl,B,?_⟩;rw[<-Oz];exact Ei (eo E (by decide)) _ _ _
 rcases Q with rfl |⟨b,T,ds,rfl,U,h7,V,X⟩
 ·refine(Any.strings_Join_none aSb aO1 N I (jE s) w).mono ?_;rintro e A ⟨rfl,rfl⟩;exact fin _ (.refl _ _)
 ·have K:=Xa X;subst K;have:=Any.strings_Join aSb aO1 b T I (l.map jE) (jE s) w (λj x F=>?_) U (by rw[sv];exact P) (by rw[sv];exact O) (by rw[D,sC];exact E)
  ·rw[sv,D,sC] at this;refine this.mono ?_;rintro e A ⟨rfl,B⟩;exact fin _ B
  ·rw[ze,aHy] at F;obtain⟨y,C,rfl⟩:=F;obtain⟨R,C⟩:=aEi.1 C;have:=V.cell j (.string (jE y)) (by simp[R,C])
   rwa [Lib.add_plain] at this
end
section
open Go.Sw Go.RowKit Go.Sort Go.Lib
set_option maxHeartbeats 6400000 in
set_option maxRecDepth 100000 in
theorem OT(u:Nat)(aVs:u<18446744073709551616)(w:aAf)(bKy:Lib.TabIs Tryz.prog w "internal/strconv.uint64pow10" .u64 Lib.pow10Tab):Calls Tryz.prog 72 #[.int .u64 u,.int .i64 10] w λe w'=>e= .returned (.string ⟨(Lib.decDigits u).toArray⟩)/\Below w.heap.size w w':=by
 have mixed:=aO4.mixed;by_cases I:u<100
 ·go_enter Tryz.func72,Tryz.ntmps72
  go_wp2_with (go_at_call 80;refine(Any.internal_strconv_small { aO4 with } u I _).mono ?_;rintro e w' ⟨rfl,rfl⟩)
  go_ret
  exact⟨rfl,.refl _ _⟩
 ·have E:1<=u:=by omega
  have M:Lib.nDigits u<=20:=by have:=Lib.numDigits_eq u E aVs;split at this<;>omega
  have F:Tryz.prog.arrayLen 173=24:=by kernel_rfl
  have N:∀W,(Instr.sliceAt 173 (.pointer (some ⟨w.heap.size,0,none⟩)) none (some (.int .i64 (Lib.nDigits u:Int))) none).run Tryz.prog W= .ok (.slice (some ⟨w.heap.size,0,none⟩) (Lib.nDigits u) 24) W:=λW=>by
   rw[run_sliceAt_array_h W 173 ⟨w.heap.size,0,none⟩ Tryz.underlying173 .i64 (Lib.nDigits u:Int) (by omega) (by rw[F];omega)]
   go_simp
  have C:Holds (λ(b:UInt8)=>Value.int .u8 (b.toNat:Int)) (w.alloc (.cells zeros24 173)) w.heap.size 0 (Array.replicate (nDigits u) (0:UInt8)):=λj A=>by
   have O:j<nDigits u:=(by simpa using A);refine⟨?_,World.frozen?_alloc_new _ _ _ _⟩;rw[World.cell?_alloc_new,zeros24_at _ (by omega),getElem!_pos _ j A];simp
  have G:=Any.internal_strconv_formatBase10 (ρ:=IJ) { aO4 with } w.heap.size 0 24 u (Array.replicate (nDigits u) 0) (w.alloc (.cells zeros24 173)) C (by rw[aF8];exact lt_pow_nDigits u) aVs (by rw[aF8];omega);rw[aF8] at G;have K:=Lib.hid C;clear C F
  go_enter Tryz.func72,Tryz.ntmps72
  go_wp2_with (first
    | (go_at_call 81;refine(Any.internal_strconv_numDigits (ρ:=IJ) { aSa,aO4 with } u E aVs _ (Lib.tabIs_alloc bKy _)).mono ?_;rintro e w' ⟨rfl,rfl⟩))
  go_at_call 82
  refine G.mono ?_;rintro e w' ⟨rfl,k,R,B,rfl,D⟩;have Q:(convert 26 9 (.slice (some ⟨w.heap.size,0,none⟩) (nDigits u) 24)).run Tryz.prog ((putRow (λ(b:UInt8)=>Value.int .u8 (b.toNat:Int)) (w.alloc (.cells zeros24 173)) w.heap.size 0 B).drewN k)= .ok (.string ⟨(decDigits u).toArray⟩) ((putRow (λ(b:UInt8)=>Value.int .u8 (b.toNat:Int)) (w.alloc (.cells zeros24 173)) w.heap.size 0 B).drewN k):=by
   have h:=run_convert_bytes_back (P:=Tryz.prog) ((putRow (λ(b:UInt8)=>Value.int .u8 (b.toNat:Int)) (w.alloc (.cells zeros24 173)) w.heap.size 0 B).drewN k) 26 9 5 ⟨w.heap.size,0,none⟩ 24 (decDigits u) Tryz.underlying26 Tryz.underlying5 Tryz.underlying9 (λj A=>by
    rw[row_is_numeral D j A,add_plain,World.cell?_drewN]
    exact cell?_putRow (λ(b:UInt8)=>Value.int .u8 (b.toNat:Int)) _ w.heap.size 0 _ B K.out (by rw[D.size,aF8]) j (by rw[D.size];rw[decDigits_length] at A;exact A))
   rw[decDigits_length] at h;exact h
  go_wp2
  go_ret
  refine⟨rfl,?_⟩;rw[alloc_eq_grow];obtain⟨L,_,e⟩:=putRow_grow_new (λ(b:UInt8)=>Value.int .u8 (b.toNat:Int)) w #[.cells zeros24 173] w.heap.size 0 B (gC _);rw[e];exact Lib.below_grow w.heap.size w (gC _) k L
variable {v:aA4}{g:List Obj} [GO g]
theorem tX(_:Nat->Nat){n b:Int}{r:List Int}(h:fuT n b=some r):A3 Tryz.prog 55 [.v (Fu.int .u64) n,.v (Fu.int .i64) b] [(7777,.dp (aH v) g [])] (.v Fu.str r) [(7777,.dp (aH v) g [])]:=by
 unfold fuT at h;split at h<;>cases h;rename_i B;subst B;refine A3.back λS w vs ρ _ I K=>?_;obtain⟨u,M,rfl,D,E⟩:=FP K;simp only[Slot.ok] at D E;obtain⟨rfl,A,C⟩:=lG.1 D;obtain⟨rfl,_⟩:=lG.1 E;have A:0<=n:=A;have C:n<=18446744073709551615:=C;obtain⟨m,rfl⟩:=Int.eq_ofNat_of_zero_le A;have F:=OT m (by omega) w (WY aSa.m17 (Sp I))
 go_enter Tryz.func55,Tryz.ntmps55
 go_wp2_with (go_at_call 72;refine F.mono ?_;rintro e N ⟨rfl,B⟩)
 go_ret
 refine⟨_,rfl,B,?_⟩;rw[<-Oz];refine Ei ?_ _ _ _;have:=decDigits_length m;have L:nDigits m<=20:=by
  by_cases G:1<=m
  ·have:=numDigits_eq m G (by omega);split at this<;>omega
  ·have:m=0:=(by omega);subst this;unfold nDigits;decide
 show (decDigits m).length<=_;omega
end
section
open Go.Sw Go.RowKit
set_option maxHeartbeats 2000000 in
set_option maxRecDepth 100000 in
theorem cc0(p:Bool)(b:Nat)(w:aAf)(h0:w.cell? ⟨b,0,none⟩=some (xI p b))(hsh:w.shape? b=some (31,4))(hfz:w.frozen? ⟨b,0,none⟩=false):Calls Tryz.prog 38 #[.pointer (some ⟨b,0,none⟩)] w λe w'=>e= .returned (.tuple #[])/\w'=if p then w else w.setCell ⟨b,0,none⟩ (xI true b):=by
 obtain⟨j,u,A⟩:=aHy.1 aO1.sizeBuilder;have mixed:=aSb.mixed;cases p with
 |true=>
  simp only[xI,K4] at h0
  go_enter Tryz.func38,Tryz.ntmps38
  go_wp2
  rw[Lib.run_neq_ptr_same w _ (te:=28) Tryz.underlying25 u]
  go_wp2
  go_end0
  exact⟨rfl,rfl⟩
 |false=>
  simp only[xI,mu,M5] at h0
  go_enter Tryz.func38,Tryz.ntmps38
  go_wp2
  rw[Lib.run_to_unsafe (j:=j) w ⟨b,0,none⟩ Tryz.underlying25 Tryz.underlying119 u (by rw[A];decide) hsh (Nat.zero_lt_succ 3)];simp only[Result.andThen];rw[Oper.upon_value]
  go_wp2
  rw[run_callFunc_extern Tryz.func60 (by kernel_rfl) (by kernel_rfl) (by kernel_rfl) (e:=Extern.AbiNoEscape.same) (by kernel_rfl)];rw[Lib.run_noEscape];simp only[Result.andThen];rw[Oper.upon_value]
  go_wp2
  rw[Lib.run_from_unsafe (j:=j) w ⟨b,0,none⟩ Tryz.underlying119 Tryz.underlying25 u hsh (by kernel_rfl)];simp only[Result.andThen];rw[Oper.upon_value]
  go_wp2
  go_end0
  exact⟨rfl,rfl⟩
theorem cc(p:Bool)(b:Nat)(v n sl:aA4)(w:aAf)(V9:w.heap[b]? =some (.cells #[xI p b,v,n,sl] 31 (0,0))):Calls Tryz.prog 38 #[.pointer (some ⟨b,0,none⟩)] w λe w'=>e= .returned (.tuple #[])/\w'.heap[b]? =some (.cells #[xI true b,v,n,sl] 31 (0,0))/\ff b w w':=by
 refine(cc0 p b w (by rw[Lib.cell_of_heap V9];rfl) (by simp[World.shape?,V9]) (Lib.frozen_of_heap V9 0)).mono ?_;rintro e B ⟨rfl,rfl⟩;cases p with
 |true=>exact⟨rfl,V9,rfl,λ_ _=>rfl,rfl,rfl,rfl⟩
 |false=>
  obtain⟨u,A⟩:=vB (pre:=[]) (c:=[_]) (post:=[v,n,sl]) (v:=xI true b) rfl V9;exact⟨rfl,A,u⟩
set_option maxHeartbeats 2000000 in
set_option maxRecDepth 100000 in
theorem ws:aBp Tryz.prog 16 31 5:=by
 intro b p v n sl l s w U O P V;obtain⟨i0,hi,ab,yk,ed⟩:=info_parts aO1.infoByte;have mixed:=aSb.mixed
 go_enter Tryz.func16,Tryz.ntmps16
 go_wp2_with (go_at_call 38;refine(cc p b v n sl w U).mono ?_)
 rintro e B ⟨rfl,E,L⟩;have c0:B.cell? ⟨b,0,none⟩=some (.pointer (some ⟨b,0,none⟩)):=by rw[Lib.cell_of_heap E];rfl
 have c1:B.cell? ⟨b,1,none⟩=some v:=by rw[Lib.cell_of_heap E];rfl
 have S:B.ownsRow 0 5 1 v l.length l:=⟨O.1,O.2.imp id (by
  rintro⟨g,cap,F,rfl,M,C,N⟩
  exact⟨g,cap,F,rfl,M,by rw[L.other g (P g rfl)];exact C,N⟩)⟩
 go_wp2_with (at_builtin;refine Yr rfl _ _ 26 9 rfl 5 i0 Tryz.underlying26 Tryz.underlying9 hi ab yk ed _ _ _ rfl S s rfl V ?_)
 intro X A G Q ft tn;have T:b<B.heap.size:=(aDl.1 E).1;have u:A.heap[b]? =some (.cells #[xI true b,v,n,sl] 31 (0,0)):=by
  rw[Q.block b T (λe=>P b e.symm rfl)];exact E
 have d0:A.cell? ⟨b,0,none⟩=some (.pointer (some ⟨b,0,none⟩)):=by rw[Lib.cell_of_heap u];rfl
 have d1:A.cell? ⟨b,1,none⟩=some v:=by rw[Lib.cell_of_heap u];rfl
 have f1:A.frozen? ⟨b,1,none⟩=false:=Lib.frozen_of_heap u 1;obtain⟨I,K,cap,rfl⟩:∃I K cap,X= .slice I K cap:=by
  rcases G.2 with⟨D,_⟩|⟨g,cap,F,D,_⟩
  ·exact⟨_,_,_,D⟩
  ·exact⟨_,_,_,D⟩
 go_wp2
 go_ret2
 obtain⟨R,h2⟩:=vB (pre:=[xI true b]) (c:=[v]) (post:=[n,sl]) (v:= .slice I K cap) rfl u;refine⟨rfl,_,h2,⟨G.1,G.2.imp id ?_⟩,ft,λg hg=>(tn g hg).imp id (by rw[L.size];exact id),B,A,L,Q,R⟩;rintro⟨g,cap,F,D,M,C,N⟩;refine⟨g,cap,F,D,M,(R.other g ?_).trans C,N⟩;rintro rfl;rw[u] at C;cases C
theorem Sq(w:aAf)(g n:Nat):w.grownBy (w.drew.freeze ⟨g,0,none⟩ n) (some g):=by
 unfold World.freeze;split
 ·exact⟨rfl,rfl,rfl,gC _,λ_ _ _=>rfl⟩
 ·refine⟨rfl,rfl,rfl,by simp,λk A u=>?_⟩;simp only[Array.getElem?_modify];rw[nS λe=>u (by rw[e])];rfl
set_option maxHeartbeats 2000000 in
set_option maxRecDepth 100000 in
theorem bs:aBq Tryz.prog 10 31 5:=by
 intro b p v n sl l w K D L;have mixed:=bP0.mixed;have c1:w.drew.cell? ⟨b,1,none⟩=some v:=by
  have:w.drew.heap[b]? =some (.cells #[p,v,n,sl] 31 (0,0)):=K;rw[Lib.cell_of_heap this];rfl
 by_cases B:l=[]
 ·have C:=L.2 B;subst B C;have E:(Builtin.unsafeString_ #[61,3] 9 #[.pointer none,.int .i64 0]).run Tryz.prog w.drew= .ok (.string .empty) w.drew:=Lib.run_unsafeString_none _ _ _ _ _;have F:(Builtin.unsafeSliceData_ #[26] 61 #[.slice none 0 0]).run Tryz.prog w.drew= .ok (.pointer none) w.drew:=rfl
  go_enter Tryz.func10,Tryz.ntmps10
  go_wp2
  go_region_o
  all_goals (go_wp2;go_ret;exact⟨rfl,rfl,rfl,rfl,gC _,λ_ _ _=>rfl⟩)
 ·have G:l.length≠0:=by simpa using B
  obtain⟨g,u,A,rfl,Q,N,R,O,S,T⟩:∃g u A,v= .slice (some ⟨g,0,none⟩) l.length u/\0<=g/\w.heap[g]? =some (.cells A 5 (0,0))/\l.length<=u/\u<=maxLen/\A.size=u*1/\A.toList.take (l.length*1)=Lib.byteCells l:=by
   rcases D.2 with⟨_,P⟩|⟨g,u,A,C,r⟩
   ·exact absurd P G
   ·exact⟨g,u,A,C,r⟩
  have F:(Builtin.unsafeSliceData_ #[26] 61 #[.slice (some ⟨g,0,none⟩) l.length u]).run Tryz.prog w.drew= .ok (.pointer (some ⟨g,0,none⟩)) w.drew:=
   Lib.run_unsafeSliceData_row _ _ _ _ _ _ (by omega)
  have E:(Builtin.unsafeString_ #[61,3] 9 #[.pointer (some ⟨g,0,none⟩),.int .i64 l.length]).run Tryz.prog w.drew= .ok (.string ⟨l.toArray⟩) (w.drew.freeze ⟨g,0,none⟩ l.length):=by
   refine Lib.run_unsafeString_row w.drew 61 3 9 5 Tryz.underlying61 aO1.cellsByte g A.size (by have I:w.drew.heap[g]? =some (.cells A 5 (0,0)):=N;simp[World.shape?,I]) l B (by omega) (by unfold maxLen at O;omega) ?_;intro j x M;exact D.cells (g:=g) rfl j (.int .u8 x.toNat) (by simp[Lib.byteCells,M])
  go_enter Tryz.func10,Tryz.ntmps10
  go_wp2
  go_region_o
  all_goals (go_wp2;go_ret;exact⟨rfl,Sq w g _⟩)
end
section
open Go.Sw Go.RowKit
attribute [local go_sem] Oper.semAt_some
theorem aDh{b:Int}(h:0<=b/\b<=255)(n:Nat)(hn:n<256):(UInt8.ofNat b.toNat==UInt8.ofNat n)=decide (b=n):=by
 rw[aIl,beq_iff_eq,aIa,<-UInt8.toNat_inj,aHn,aHn];omega
theorem Xb{b:Int}{l:List Int}(h:0<=b/\b<=255):Lib.indexByte (ub (b::l)) 10=if b=10 then 0 else if Lib.indexByte (ub l) 10= -1 then -1 else Lib.indexByte (ub l) 10+1:=by
 have:=aDh h 10 (by decide);show (if (UInt8.ofNat b.toNat==UInt8.ofNat 10)=true then 0 else if (Lib.indexByte (ub l) 10== -1)=true then -1 else Lib.indexByte (ub l) 10+1)=_;rw[this];by_cases c:b=10<;>by_cases u:Lib.indexByte (ub l) 10= -1<;>simp[c,u]
theorem OU:∀(s:List Int) (i:Nat),C2 s->Lib.indexByte (ub s) 10=i->i<s.length/\ln s=s.take (i+1)::ln (s.drop (i+1))
 | [],i,_,h=>by simp[ub,Lib.indexByte] at h
 |b::l,i,u,h=>by
  rw[Xb (u b kg)] at h;by_cases c:b=10
  ·rw[sM c] at h;have:i=0:=(by omega);subst this;simp[ln,c]
  ·rw[nS c] at h;split at h
   ·omega
   ·obtain⟨j,rfl⟩:∃j,i=j+1:=⟨i - 1,by have:=Lib.indexByte_ge (ub l) 10;omega⟩;obtain⟨C,B⟩:=OU l j (λx A=>u x (kf _ A)) (by omega);refine⟨by simp;omega,?_⟩;simp[ln,c,B]
theorem DU:∀(s:List Int),C2 s->s≠ []->Lib.indexByte (ub s) 10= -1->ln s=[s]
 | [],_,h,_=>absurd rfl h
 |b::l,u,_,h=>by
  rw[Xb (u b kg)] at h;by_cases c:b=10
  ·rw[sM c] at h;cases h
  ·rw[nS c] at h;cases hl:l with
   |nil=>simp[ln,c]
   |cons B C=>
    rw[<-hl]
    have:ln l=[l]:=DU l (λx A=>u x (kf _ A)) (by rw[hl];exact aH4 _ _) (by
     split at h
     ·assumption
     ·have:=Lib.indexByte_ge (ub l) 10;omega)
    simp[ln,c,this]
theorem DV(l:List Int)(m n:Nat):(jE l).extract m n=jE ((l.take n).drop m):=by
 unfold jE;rw[ByteArray.extract_mk,<-List.map_drop,<-List.map_take,aH9]
def ZJ(w:aAf)(c:Nat):Nat:=match w.cell? ⟨c,0,none⟩ with | some (.string x)=>x.size | _=>0
theorem Jt{w:aAf}{c:Nat}{x:ByteArray}(h:w.cell? ⟨c,0,none⟩=some (.string x)):ZJ w c=x.size:=by unfold ZJ;rw[h]
set_option maxHeartbeats 2000000 in
set_option maxRecDepth 100000 in
theorem aFd{F0 F:w8}(hP:F.P=Tryz.prog)(c:Nat)(s:List Int)(hs:F.S0 c)(hr:¬F.R c)(hf:F0.w0.heap.size<=c\/F0.R c)(hc:F.w0.heap[c]? =some (.cells #[.string (jE s)] 9 (0,0)))(hb:C2 s)(hl:s.length<=9223372036854775807):ItX F0 F 13 [.v (Fu.H2 (.pointer (some ⟨c,0,none⟩)) rfl) ()] ((ln s).map λx=>[.v Fu.str x]) λk=>k=c:=by
 refine⟨λk h=>h ▸ hs,λk h=>h ▸ hf,λk h=>h ▸ ⟨hr,λo h=>by rw[hc] at h;cases h⟩,?_⟩;intro S w vs ρ l J Jx J0 hv hJ aS5 ix aTc hY hX;rw[hP] at hY ⊢;obtain⟨u,rfl,L⟩:=RW hv;simp only[Slot.ok] at L;have L:=zB.1 L;subst L;obtain⟨ak,ad,ae,al⟩:=hX c rfl;rw[hc] at ad;refine(callsIn_wide (n:=0)).1 ?_;refine callsIn_of_wp Tryz.func13 rfl trivial ?_ rfl;simp only[Tryz.ntmps13,aHp,qf,ue,Nat.reduceAdd,Nat.reduceSub,Array.replicate_succ,Array.replicate_zero,List.push_toArray,List.append_toArray,rh,ud]
 gi_wp2
 gi_loopw [3,4] (λ_ _ wr=>∃(k:Nat) (A:List Int),k<=(ln s).length/\(ln s).drop k=ln A/\J k wr/\wr.heap[c]? =some (.cells #[.string (jE A)] 9 (0,0))/\C2 A/\A.length<=9223372036854775807) (λ_ _ wr=>ZJ wr c)
 case atStart=>exact⟨0,s,aHd _,rfl,hJ,ad,hb,hl⟩
 case round=>
  obtain⟨k,A,hk,Rt,V,M,K,af⟩:=hrel;have c0:wr.cell? ⟨c,0,none⟩=some (.string (jE A)):=by rw[Lib.cell_of_heap M];rfl
  have f0:wr.frozen? ⟨c,0,none⟩=false:=Lib.frozen_of_heap M 0;cases hn:A with
  |nil=>
   subst hn
   gi_wp2
   go_end0
   refine⟨⟨_,rfl⟩,.inl ?_⟩;have:(ln s).length<=k:=aH7.1 Rt;rw[sv,Nat.le_antisymm this hk];exact V
  |cons b0 r0=>
   have G4:A≠ []:=(by rw[hn];exact aH4 _ _);have iu:0<A.length:=aD4.2 G4;clear hn;have N2:=gN A;by_cases D:Lib.indexByte (ub A) 10= -1
   ·have Q:∀W,Calls Tryz.prog 14 #[.string (jE A),.int .u8 10] W λe I=>e= .returned (.int .i64 (-1))/\I=W:=λW=>by
     have:=Any.strings_IndexByte ZI (jE A) 10 W;rw[sC] at this;rw[<-D];exact this
    have E:=DU A K G4 D;obtain⟨X,N⟩:ff c wr (wr.setCell ⟨c,0,none⟩ (.string ⟨#[]⟩))/\(wr.setCell ⟨c,0,none⟩ (.string ⟨#[]⟩)).heap[c]? =some (.cells #[.string ⟨#[]⟩] 9 (0,0)):=vB (pre:=[]) (c:=[.string (jE A)]) (post:=[]) (v:= .string ⟨#[]⟩) rfl M;have B:k<(ln s).length:=by
     rcases jl k (ln s).length with h | h
     ·exact h
     ·rw[aH7.2 h,E] at Rt;cases Rt
    have C:=aGe B;rw[Rt,E] at C;have T:((ln s).map λx=>([.v Fu.str x]:List Slot))[k]? =some [.v Fu.str A]:=by
     rw[ze,sE B,<-(aId C).1];rfl
    obtain⟨fn,ai,aj,body,G,hR⟩:=hY k _ _ _ [.string (jE A)] T (ae k _ _ V X) (Below.refl _ _) (by simp only[aG];exact⟨_,_,rfl,Ay K af _ _ _,rfl⟩);replace G:(Instr.yield l #[.string (jE A)]).run Tryz.prog (wr.setCell ⟨c,0,none⟩ (.string ⟨#[]⟩))=_:=G
    gi_wp2_with (refine⟨trivial,rfl,?_⟩;gi_at_call 14;refine(callsIn_wide.2 (Q _)).mono ?_;rintro e I ⟨rfl,rfl⟩)
    refine⟨rfl,hR.mono ?_⟩;rintro e W3 (⟨rfl,ab,O⟩|⟨rfl,ac⟩)
    ·gi_wp2
     go_roundw
     case rel=>exact⟨k+1,[],B,(aId C).2.symm,ab,(O c rfl).trans N,(λ_ h=>nomatch h),aHd _⟩
     case measure=>rw[Jt c0,Jt (show W3.cell? ⟨c,0,none⟩=some (.string ⟨#[]⟩) by rw[Lib.cell_of_heap ((O c rfl).trans N)];rfl)];rw[gN];exact iu
    ·gi_wp2
     refine bodyPost_ret (results_none rfl _ _ _) rfl ?_;exact⟨⟨_,rfl⟩,.inr ac⟩
   ·obtain⟨i,D⟩:∃i:Nat,Lib.indexByte (ub A) 10=i:=⟨(Lib.indexByte (ub A) 10).toNat,by have:=Lib.indexByte_ge (ub A) 10;omega⟩;have Q:∀W,Calls Tryz.prog 14 #[.string (jE A),.int .u8 10] W λe I=>e= .returned (.int .i64 (i:Int))/\I=W:=λW=>by
     have:=Any.strings_IndexByte ZI (jE A) 10 W;rw[sC] at this;rw[<-D];exact this
    obtain⟨an,E⟩:=OU A i K D;have w1:IntKind.i64.wrap ((i:Int)+1)=i+1:=(by rw[IntKind.wrap_i64];omega);have e1:(jE A).extract 0 (i+1)=jE (A.take (i+1)):=DV A 0 (i+1);have e2:(jE A).extract (i+1) A.length=jE (A.drop (i+1)):=(DV A (i+1) A.length).trans (by rw[aFh (gC _)]);obtain⟨X,N⟩:ff c wr (wr.setCell ⟨c,0,none⟩ (.string (jE (A.drop (i+1)))))/\(wr.setCell ⟨c,0,none⟩ (.string (jE (A.drop (i+1))))).heap[c]? =some (.cells #[.string (jE (A.drop (i+1)))] 9 (0,0)):=
     vB (pre:=[]) (c:=[.string (jE A)]) (post:=[]) (v:= .string (jE (A.drop (i+1)))) rfl M
    have B:k<(ln s).length:=by
     rcases jl k (ln s).length with h | h
     ·exact h
     ·rw[aH7.2 h,E] at Rt;cases Rt
    have C:=aGe B;rw[Rt,E] at C;have T:((ln s).map λx=>([.v Fu.str x]:List Slot))[k]? =some [.v Fu.str (A.take (i+1))]:=by
     rw[ze,sE B,<-(aId C).1];rfl
    obtain⟨fn,ai,aj,body,G,hR⟩:=hY k _ _ _ [.string (jE (A.take (i+1)))] T (ix k _ _ (ae k _ _ V X) (Below.drew (.refl _ _))) (.refl _ _) (by
     simp only[aG];exact⟨_,_,rfl,Ay (λx U=>K x (aE8 U)) (by rw[Z1];omega) _ _ _,rfl⟩)
    replace G:(Instr.yield l #[.string (jE (A.take (i+1)))]).run Tryz.prog (wr.setCell ⟨c,0,none⟩ (.string (jE (A.drop (i+1))))).drew=_:=G
    gi_wp2_with (refine⟨trivial,rfl,?_⟩;gi_at_call 14;refine(callsIn_wide.2 (Q _)).mono ?_;rintro e I ⟨rfl,rfl⟩)
    gi_region
    gi_wp2
    refine⟨rfl,hR.mono ?_⟩;rintro e W3 (⟨rfl,ab,O⟩|⟨rfl,ac⟩)
    ·have sf:=(O c rfl).trans N
     gi_wp2
     go_roundw
     case rel=>exact⟨k+1,A.drop (i+1),B,(aId C).2.symm,ab,sf,λx U=>K x (aGi U),by rw[mr];omega⟩
     case measure=>rw[Jt c0,Jt (show W3.cell? ⟨c,0,none⟩=some (.string _) by rw[Lib.cell_of_heap sf];rfl),gN,gN,mr];omega
    ·gi_wp2
     refine bodyPost_ret (results_none rfl _ _ _) rfl ?_;exact⟨⟨_,rfl⟩,.inr ac⟩
end
section
open Go.Sw Go.Mo Go.Proofs.Tryz
set_option maxHeartbeats 4000000
set_option maxRecDepth 100000
abbrev C11:=call11
abbrev UK:=call113
abbrev HV:=call130
abbrev HW:=call154
abbrev ZK:=call17
abbrev UL:=call171
abbrev UM:=call227
abbrev C24:=call24
abbrev C52:=call52
abbrev C73:=call73
abbrev OV:=isAgg106
abbrev OW:=isAgg114
abbrev Sr:=isAgg134
abbrev AE:=isAgg205
abbrev UN:=isAgg247
abbrev G26:=isAgg26
abbrev WZ:=isAgg29
abbrev G3:=isAgg3
abbrev G5:=isAgg5
abbrev G53:=isAgg53
abbrev UO:=isAgg65
abbrev G67:=isAgg67
abbrev ZL:=isAgg82
abbrev ZM:=typeInfo106
abbrev ZN:=typeInfo156
abbrev ZO:=typeInfo196
abbrev ZP:=typeInfo205
abbrev ZQ:=typeInfo258
abbrev I3:=typeInfo3
abbrev I5:=typeInfo5
abbrev QH:=typeInfo65
abbrev I67:=typeInfo67
abbrev I95:=typeInfo95
abbrev ZS:=typeInfo99
abbrev Mx:=sizeOf106
abbrev Fq:=sizeOf114
abbrev Np:=sizeOf134
abbrev UP:=sizeOf141
abbrev OX:=sizeOf143
abbrev OY:=sizeOf144
abbrev UQ:=sizeOf146
abbrev UR:=sizeOf150
abbrev Ss:=sizeOf156
abbrev Nq:=sizeOf196
abbrev Xc:=sizeOf205
abbrev HX:=sizeOf247
abbrev ZT:=sizeOf26
abbrev AF:=sizeOf29
abbrev S3:=sizeOf3
abbrev S4:=sizeOf4
abbrev S42:=sizeOf42
abbrev S47:=sizeOf47
abbrev S5:=sizeOf5
abbrev US:=sizeOf53
abbrev Su:=sizeOf65
abbrev OZ:=sizeOf67
abbrev S71:=sizeOf71
abbrev PA:=sizeOf75
abbrev ZU:=sizeOf81
abbrev XA:=sizeOf82
abbrev S9:=sizeOf9
abbrev S95:=sizeOf95
abbrev Gb:=sizeOf99
abbrev HY:=runUnderlying106
abbrev uJ:=runUnderlying114
abbrev ZW:=runUnderlying115
abbrev ZX:=runUnderlying136
abbrev UT:=runUnderlying137
abbrev UU:=runUnderlying139
abbrev Xd:=runUnderlying140
abbrev ZY:=runUnderlying143
abbrev Iu:=runUnderlying144
abbrev PB:=runUnderlying146
abbrev ZZ:=runUnderlying148
abbrev UW:=runUnderlying150
abbrev Dk:=runUnderlying151
abbrev UX:=runUnderlying153
abbrev aAa:=runUnderlying162
abbrev UY:=runUnderlying164
abbrev UZ:=runUnderlying166
abbrev aAb:=runUnderlying167
abbrev VA:=runUnderlying196
abbrev HZ:=runUnderlying205
abbrev aAc:=runUnderlying214
abbrev aAd:=runUnderlying216
abbrev PC:=runUnderlying247
abbrev AG:=runUnderlying249
abbrev VB:=runUnderlying258
abbrev Xp:=runUnderlying26
abbrev aAe:=runUnderlying264
abbrev PD:=runUnderlying29
abbrev U3:=runUnderlying3
abbrev IK:=runUnderlying31
abbrev VC:=runUnderlying339
abbrev PE:=runUnderlying342
abbrev U36:=runUnderlying36
abbrev Sv:=runUnderlying369
abbrev U44:=runUnderlying44
abbrev U49:=runUnderlying49
abbrev U5:=runUnderlying5
abbrev U53:=runUnderlying53
abbrev U57:=runUnderlying57
abbrev Hk:=runUnderlying62
abbrev Qj:=runUnderlying65
abbrev U67:=runUnderlying67
abbrev U71:=runUnderlying71
abbrev U73:=runUnderlying73
abbrev U75:=runUnderlying75
abbrev U78:=runUnderlying78
abbrev VD:=runUnderlying82
abbrev U9:=runUnderlying9
abbrev U95:=runUnderlying95
abbrev U99:=runUnderlying99
abbrev Xe:=zeroValue106
abbrev IA:=zeroValue156
abbrev VE:=zeroValue196
abbrev PF:=zeroValue205
abbrev VF:=zeroValue258
abbrev Z3:=zeroValue3
abbrev Z5:=zeroValue5
abbrev QI:=zeroValue65
abbrev Z67:=zeroValue67
abbrev Z73:=zeroValue73
abbrev Z75:=zeroValue75
abbrev Z82:=zeroValue82
abbrev Z95:=zeroValue95
abbrev Z99:=zeroValue99
abbrev Ju:=(([110,101,119]:List Int),(1:Int))
abbrev Nf:=(([119,114,105,116,101]:List Int),(2:Int))
abbrev Qk:=(([116,114,105,109]:List Int),(1:Int))
abbrev Ta:=(([114,101,97,100]:List Int),(1:Int))
abbrev Xq:=(([98,97,114,114,105,101,114]:List Int),(0:Int))
abbrev DW:=(([116,105,99,107]:List Int),(0:Int))
abbrev IL:=(([100,101,108,105,118,101,114]:List Int),(1:Int))
abbrev QJ:=(([108,111,115,101]:List Int),(1:Int))
abbrev XB:=(([100,111,117,98,108,101]:List Int),(1:Int))
abbrev mq9:=(([99,114,97,115,104]:List Int),(1:Int))
abbrev VG:=(([115,101,116,116,108,101]:List Int),(0:Int))
abbrev aDs:=(([112,108,97,110]:List Int),(0:Int))
abbrev Q0:=(Fu.int .i64)
abbrev Q1:=(Int×Int×Int×Int×(List aD)×(Int×(List (Int×aD))×(List (Int×(List (Int×aD))))×Bool)×(List (Int×(List aD)))×Int×(Int×Int×(List (Int×(List Int)×(List aD))))×Int×Int×(List Int)×Int×Int×Int×Int×(Int×Int)×(List (Bool×Bool×(List Int)))×Int×((List aD)×(List (Int×aD))×Int)×Int×((List aD)×(List (Int×aD))×Int))
abbrev Q2:=(Fu.pr (Fu.sl aK) (Fu.pr (Fu.sl (Fu.pr Q0 aK)) Q0))
abbrev Q3:=((List aD)×(List (Int×aD))×Int)
abbrev Q4:=(Fu.pr Q0 (Fu.pr Q0 (Fu.pr Q0 aK)))
abbrev Q5:=(Fu.pr Q0 aK)
abbrev Q6:=(List Int)
abbrev Q7:=(List (Int×Int×Int×aD))
abbrev Q8:=(Fu.err ET)
abbrev Q9:=(List aD)
abbrev Iv:=(List (Int×aD))
abbrev e1q:=Fu.err ET
abbrev tY:=Fu.sl aK
abbrev xX:=Fu.int .u8
abbrev dX:=Fu.int .i64
abbrev e5q:=Fu.int .u32
abbrev Xr:=Fu.int .u64
abbrev e7q:=Fu.sl Fu.str
abbrev XC:=Fu.sl xX
abbrev e9q:=Fu.sl tY
abbrev IB:=Fu.sl dX
abbrev Hl:=Fu.sl Xr
abbrev iV:=Fu.pr dX aK
abbrev aAh:=Fu.sl Hl
abbrev Xf:=Fu.sl iV
abbrev aFi:=Fu.pr dX tY
abbrev aAi:=Fu.pr dX dX
abbrev aAj:=Fu.mpF dX tY
abbrev aFj:=Fu.we iV
abbrev aDu:=Fu.mpF aK IB
abbrev aFk:=Fu.pr Fu.bool XC
abbrev aAk:=Fu.pr tY e9q
abbrev aFl:=Fu.pr IB tY
abbrev aFm:=Fu.arr 32 aFj
abbrev aFn:=Fu.pr dX iV
abbrev pQ:=Fu.pr Fu.bool aFk
abbrev aFo:=Fu.pr Xf dX
abbrev vF:=Fu.pr dX Xf
abbrev IC:=Fu.pr tY aDu
abbrev aFp:=Fu.pr dX aFi
abbrev aAl:=Fu.sl vF
abbrev Fs:=Fu.pr dX aFl
abbrev aDv:=Fu.we IC
abbrev uK:=Fu.pr dX aFn
abbrev aAm:=Fu.sl Fs
abbrev AH:=Fu.pr tY aFo
abbrev aFq:=Fu.sl uK
abbrev aFr:=Fu.pr dX aFp
abbrev aFs:=Fu.pr aAl Fu.bool
abbrev aFt:=Fu.pr aK aFr
abbrev aFu:=Fu.pr dX aAm
abbrev Dl:=Fu.pr dX AH
abbrev PG:=Fu.we Dl
abbrev Sx:=Fu.pr dX aFt
abbrev aAn:=Fu.pr dX aFu
abbrev PH:=Fu.sl Sx
abbrev aFv:=Fu.pr Xf aFs
abbrev aAo:=Fu.pr dX aFv
abbrev b1q(x1:Nat)(x2:Nat)(x3)(p:Option Nat:=none):=j2.box 247 [.ref x1,.ref x2,.v dX x3] p
abbrev kZ(x1)(x2)(p:Option Nat:=none):=j2.box 249 [.v dX x1,.v AH x2] p
abbrev b3q(x1)(x2:Nat)(x3)(x4)(x5)(x6:Nat)(x7)(x8:Nat)(x9)(Y1)(P0)(nc)(bu:Nat)(W8)(kk)(D8)(D4)(T6)(du)(R5:Nat)(p:Option Nat:=none):=j2.box 153 [.v dX x1,.ptr x2 0,.v dX x3,.v dX x4,.v dX x5,.ref x6,.v aAo x7,.ref x8,.v dX x9,.v aAn Y1,.v dX P0,.v dX nc,.ref bu,.v (Fu.H2 (.pointer none) rfl) W8,.v dX kk,.v dX D8,.v dX D4,.v dX T6,.v aAi du,.ref R5] p
abbrev Jv(x1)(x2:Nat)(x3)(x4)(x5)(x6:Nat)(x7)(x8:Nat)(x9)(Y1)(P0)(nc)(bu:Nat)(W8:Nat)(kk)(D8)(D4)(T6)(du)(R5:Nat)(p:Option Nat:=none):=j2.box 153 [.v dX x1,.ptr x2 0,.v dX x3,.v dX x4,.v dX x5,.ref x6,.v aAo x7,.ref x8,.v dX x9,.v aAn Y1,.v dX P0,.v dX nc,.ref bu,.ptr W8 0,.v dX kk,.v dX D8,.v dX D4,.v dX T6,.v aAi du,.ref R5] p
abbrev VH(x1)(x2)(x3)(x4)(p:Option Nat:=none):=j2.box 139 [.v dX x1,.v Xf x2,.v aAl x3,.v Fu.bool x4] p
abbrev b6q(x1)(x2:Nat)(x3:Nat)(x4)(p:Option Nat:=none):=j2.box 139 [.v dX x1,.ref x2,.ref x3,.v Fu.bool x4] p
abbrev QK(x1)(x2)(x3)(p:Option Nat:=none):=j2.box 205 [.v dX x1,.v IB x2,.v tY x3] p
abbrev b8q(x1)(x2)(p:Option Nat:=none):=j2.box 258 [.v dX x1,.v Xf x2] p
abbrev b9q(x1)(x2)(x3)(p:Option Nat:=none):=j2.box 143 [.v dX x1,.v dX x2,.v aAm x3] p
abbrev AI(x1)(x2)(x3)(x4)(x5)(x6)(p:Option Nat:=none):=j2.box 106 [.v dX x1,.v aK x2,.v dX x3,.v dX x4,.v dX x5,.v tY x6] p
abbrev My(x1:Nat)(x2:Nat)(p:Option Nat:=none):=j2.box 78 [.ref x1,.ref x2] p
abbrev aAq(x1)(x2:Nat)(x3)(p:Option Nat:=none):=j2.box 44 [.v dX x1,.ref x2,.v (Fu.H2 (.pointer none) rfl) x3] p
abbrev AJ(x1)(x2:Nat)(x3:Nat)(p:Option Nat:=none):=j2.box 44 [.v dX x1,.ref x2,.ptr x3 0] p
abbrev PI(x1)(x2)(x3)(x4)(p:Option Nat:=none):=j2.box 67 [.v dX x1,.v dX x2,.v dX x3,.v aK x4] p
abbrev Gc:=Slot.v Fu.str
abbrev wH:=Slot.v Fu.bool
abbrev aP:=Slot.v dX
abbrev iW:=Slot.v e1q
abbrev sJ:=Slot.v aK
abbrev IM:=Slot.v AH
abbrev VI:=Slot.v iV
abbrev Dm:=Slot.v Xf
abbrev rI:=Slot.v tY
abbrev AK:=Slot.v PG
abbrev Ft:=Slot.v aAo
abbrev Iw:=Slot.v aAn
abbrev AL:=Slot.v aAi
abbrev wQ:=Slot.v IB
abbrev Xg:=Slot.v aAl
abbrev Ai:=Slot.v uK
abbrev Ix:=Slot.v Fs
abbrev tZ:=Slot.v XC
abbrev ID:=Slot.v aFm
abbrev AN:=Slot.v aDv
abbrev IE:=Slot.v aAm
abbrev Aj:=Slot.v Xr
abbrev Ck:=Slot.v Hl
abbrev Iy:=Slot.v aAh
abbrev Fv:=Slot.v aFq
abbrev AO:=Slot.v e7q
abbrev l1q(n0 n1 n2:Nat)(A:Nat->Nat)(x1 x2 x3):=([(n0,b1q n1 n2 x1 (some (A n0))),(n1,.arr 65 aK x2),(n2,.arr 99 iV x3)]:List (Nat×j2))
abbrev l2q(n0 n1 n2 n3 n4 n5:Nat)(A:Nat->Nat)(x1 x2 x3 x4 x5 x6 x7 x8 x9 Y1 P0 nc bu W8 kk D8 D4 T6 du R5 fh):=([(n0,b3q x1 n1 x2 x3 x4 n2 x5 n3 x6 x7 x8 x9 n4 Y1 P0 nc bu W8 kk n5 (some (A n0))),(n1,kZ D8 D4 (some (A n1))),(n2,.arr 65 aK T6),(n3,.mp dX tY du),(n4,.arr 3 dX R5),(n5,.arr 196 pQ fh)]:List (Nat×j2))
abbrev l3q(n0 n1 n2 n3 n4 n5 n6:Nat)(A:Nat->Nat)(x1 x2 x3 x4 x5 x6 x7 x8 x9 Y1 P0 nc bu W8 kk D8 D4 T6 du R5 fh Y0 xk):=([(n0,b3q x1 n1 x2 x3 x4 n2 x5 n3 x6 x7 x8 x9 n4 Y1 P0 nc bu W8 kk n5 (some (A n0))),(n1,kZ D8 D4 (some (A n1))),(n6,kZ T6 du (some (A n6))),(n2,.arr 65 aK R5),(n3,.mp dX tY fh),(n4,.arr 3 dX Y0),(n5,.arr 196 pQ xk)]:List (Nat×j2))
abbrev l4q(n0 n1 n2 n3 n4 n5 n6:Nat)(A:Nat->Nat)(x1 x2 x3 x4 x5 x6 x7 x8 x9 Y1 P0 nc bu W8 kk D8 D4 T6 du R5 fh Y0):=([(n0,Jv x1 n1 x2 x3 x4 n2 x5 n3 x6 x7 x8 x9 n4 n5 Y1 P0 nc bu W8 n6 (some (A n0))),(n1,kZ kk D8 (some (A n1))),(n5,kZ D4 T6 (some (A n5))),(n2,.arr 65 aK du),(n3,.mp dX tY R5),(n4,.arr 3 dX fh),(n6,.arr 196 pQ Y0)]:List (Nat×j2))
abbrev l5q(n0 n1 n2 n3 n4 n5 n6:Nat)(A:Nat->Nat)(x1 x2 x3 x4 x5 x6 x7 x8 x9 Y1 P0 nc bu W8 kk D8 D4 T6 du R5 fh Y0):=([(n0,Jv x1 n1 x2 x3 x4 n2 x5 n3 x6 x7 x8 x9 n4 n5 Y1 P0 nc bu W8 n6 (some (A n0))),(n1,kZ kk D8),(n5,kZ D4 T6),(n2,.arr 65 aK du),(n3,.mp dX tY R5),(n4,.arr 3 dX fh),(n6,.arr 196 pQ Y0)]:List (Nat×j2))
abbrev t1q(n0 n1 n2 n3 n4 n5 n6:Nat)(A:Nat->Nat)(t:_×_×_×_×_×_×_×_×_×_×_×_×_×_×_×_×_×_×_×_×_×_):=l5q n0 n1 n2 n3 n4 n5 n6 A t.1 t.2.1 t.2.2.1 t.2.2.2.1 t.2.2.2.2.2.1 t.2.2.2.2.2.2.2.1 t.2.2.2.2.2.2.2.2.1 t.2.2.2.2.2.2.2.2.2.1 t.2.2.2.2.2.2.2.2.2.2.1 t.2.2.2.2.2.2.2.2.2.2.2.2.1 t.2.2.2.2.2.2.2.2.2.2.2.2.2.1 t.2.2.2.2.2.2.2.2.2.2.2.2.2.2.1 t.2.2.2.2.2.2.2.2.2.2.2.2.2.2.2.1 t.2.2.2.2.2.2.2.2.2.2.2.2.2.2.2.2.1 t.2.2.2.2.2.2.2.2.2.2.2.2.2.2.2.2.2.2.1 t.2.2.2.2.2.2.2.2.2.2.2.2.2.2.2.2.2.2.2.1 t.2.2.2.2.2.2.2.2.2.2.2.2.2.2.2.2.2.2.2.2.1 t.2.2.2.2.2.2.2.2.2.2.2.2.2.2.2.2.2.2.2.2.2 t.2.2.2.2.1 t.2.2.2.2.2.2.1 t.2.2.2.2.2.2.2.2.2.2.2.1 t.2.2.2.2.2.2.2.2.2.2.2.2.2.2.2.2.2.1
abbrev l6q(n0 n1 n2 n3 n4 n5 n6:Nat)(A:Nat->Nat)(x1 x2 x3 x4 x5 x6 x7 x8 x9 Y1 P0 nc bu W8 kk D8 D4 T6 du R5 fh Y0):=([(n0,Jv x1 n1 x2 x3 x4 n2 x5 n3 x6 x7 x8 x9 n4 n5 Y1 P0 nc bu W8 n6 (some (A n0))),(n1,kZ kk D8 (some (A n1))),(n2,.arr 65 aK D4),(n3,.mp dX tY T6),(n4,.arr 3 dX du),(n5,kZ R5 fh (some (A n5))),(n6,.arr 196 pQ Y0)]:List (Nat×j2))
abbrev l7q(n0 n1 n2 n3 n4 n5 n6 n7:Nat)(A:Nat->Nat)(x1 x2 x3 x4 x5 x6 x7 x8 x9 Y1 P0 nc bu W8 kk D8 D4 T6 du R5 fh Y0 xk pf fg):=([(n0,Jv x1 n1 x2 x3 x4 n2 x5 n3 x6 x7 x8 x9 n4 n5 Y1 P0 nc bu W8 n6 (some (A n0))),(n7,b9q kk D8 D4),(n1,kZ T6 du (some (A n1))),(n2,.arr 65 aK R5),(n3,.mp dX tY fh),(n4,.arr 3 dX Y0),(n5,kZ xk pf (some (A n5))),(n6,.arr 196 pQ fg)]:List (Nat×j2))
abbrev l8q(n0 n1 n2 n3 n4 n5 n6 n7 n8:Nat)(A:Nat->Nat)(x1 x2 x3 x4 x5 x6 x7 x8 x9 Y1 P0 nc bu W8 kk D8 D4 T6 du R5 fh Y0 xk pf fg x26):=([(n0,Jv x1 n1 x2 x3 x4 n2 x5 n3 x6 x7 x8 x9 n4 n5 Y1 P0 nc bu W8 n6 (some (A n0))),(n7,QK kk D8 D4),(n8,.arr 99 iV T6),(n1,kZ du R5 (some (A n1))),(n2,.arr 65 aK fh),(n3,.mp dX tY Y0),(n4,.arr 3 dX xk),(n5,kZ pf fg (some (A n5))),(n6,.arr 196 pQ x26)]:List (Nat×j2))
abbrev l9q(n0 n1 n2 n3 n4 n5 n6 n7:Nat)(A:Nat->Nat)(x1 x2 x3 x4 x5 x6 x7 x8 x9 Y1 P0 nc bu W8 kk D8 D4 T6 du R5 fh Y0 xk pf fg):=([(n0,Jv x1 n1 x2 x3 x4 n2 x5 n3 x6 x7 x8 x9 n4 n5 Y1 P0 nc bu W8 n6 (some (A n0))),(n7,QK kk D8 D4),(n1,kZ T6 du (some (A n1))),(n2,.arr 65 aK R5),(n3,.mp dX tY fh),(n4,.arr 3 dX Y0),(n5,kZ xk pf (some (A n5))),(n6,.arr 196 pQ fg)]:List (Nat×j2))
abbrev aFy(n0 n1 n2 n3 n4 n5 n6 n7:Nat)(A:Nat->Nat)(x1 x2 x3 x4 x5 x6 x7 x8 x9 Y1 P0 nc bu W8 kk D8 D4 T6 du R5 fh Y0 xk pf):=([(n0,Jv x1 n1 x2 x3 x4 n2 x5 n3 x6 x7 x8 x9 n4 n5 Y1 P0 nc bu W8 n6 (some (A n0))),(n1,kZ kk D8 (some (A n1))),(n5,kZ D4 T6 (some (A n5))),(n7,kZ du R5 (some (A n7))),(n2,.arr 65 aK fh),(n3,.mp dX tY Y0),(n4,.arr 3 dX xk),(n6,.arr 196 pQ pf)]:List (Nat×j2))
abbrev VJ(n0 n1:Nat)(A:Nat->Nat)(x1 x2 x3):=([(n0,aAq x1 n1 x2 (some (A n0))),(n1,.arr 67 uK x3)]:List (Nat×j2))
abbrev aFz(n0 n1 n2 n3 n4:Nat)(A:Nat->Nat)(x1 x2 x3 x4):=([(n0,AJ x1 n1 n2 (some (A n0))),(n2,My n3 n4),(n1,.arr 67 uK x2),(n3,.arr 65 aK x3),(n4,.arr 75 tY x4)]:List (Nat×j2))
abbrev aAr(n0 n1 n2 n3 n4:Nat)(A:Nat->Nat)(x1 x2 x3 x4):=([(n0,AJ x1 n1 n2 (some (A n0))),(n2,My n3 n4 (some (A n2))),(n1,.arr 67 uK x2),(n3,.arr 65 aK x3),(n4,.arr 75 tY x4)]:List (Nat×j2))
abbrev aF0(n0 n1 n2 n3 n4:Nat)(A:Nat->Nat)(x1 x2 x3 x4):=([(n0,AJ x1 n1 n2 (some (A n0))),(n1,.arr 67 uK x2),(n2,My n3 n4 (some (A n2))),(n3,.arr 65 aK x3),(n4,.arr 75 tY x4)]:List (Nat×j2))
abbrev f1q:=l2q 9000 9100 400 401 402 403
abbrev f2q:=l3q 9000 9100 9050 9051 9052 9053 9200
abbrev Nr:=l4q 9000 9100 400 401 402 9200 403
abbrev Dq:=l4q 9000 9100 9050 9051 9052 9200 9053
abbrev PJ:=t1q 9000 301 400 401 402 302 403
abbrev f6q:=l6q 9000 9100 5001 5002 5003 9200 5004
abbrev f7q:=l6q 9000 9100 5017 5018 5019 9200 5020
abbrev f8q:=l8q 9000 9100 9050 9051 9052 9200 9053 3 5004
abbrev f9q:=l6q 9000 9100 10700 10701 10702 9200 5001
abbrev aDy:=aFy 9000 9100 9050 9051 9052 9200 9053 9300
abbrev VK:=VJ 9000 9050
abbrev aAs:=aFz 9000 400 301 401 402
abbrev aAt:=aF0 9000 9050 9100 9051 9052
instance:TT prog 3 t3.desc 1 false:=⟨U3,S3,G3⟩
instance:TT prog 4 t4.desc 1 false:=⟨runUnderlying4,S4,isAgg4⟩
instance:TT prog 5 t5.desc 1 false:=⟨U5,S5,G5⟩
instance:TT prog 9 t9.desc 1 false:=⟨U9,S9,isAgg9⟩
instance:TT prog 20 t20.desc 1 false:=⟨runUnderlying20,sizeOf20,isAgg20⟩
instance:TT prog 24 t24.desc 1 false:=⟨runUnderlying24,sizeOf24,isAgg24⟩
instance:TT prog 26 t26.desc 1 false:=⟨Xp,ZT,G26⟩
instance:TT prog 28 t27.desc 2 true:=⟨runUnderlying28,sizeOf28,isAgg28⟩
instance:TT prog 29 t29.desc 1 false:=⟨PD,AF,WZ⟩
instance:TT prog 31 t30.desc 4 true:=⟨IK,sizeOf31,isAgg31⟩
instance:TT prog 36 t36.desc 1 false:=⟨U36,sizeOf36,isAgg36⟩
instance:TT prog 41 t41.desc 1 false:=⟨runUnderlying41,sizeOf41,isAgg41⟩
instance:TT prog 42 t42.desc 1 false:=⟨runUnderlying42,S42,isAgg42⟩
instance:TT prog 44 t43.desc 3 true:=⟨U44,sizeOf44,isAgg44⟩
instance:TT prog 47 t47.desc 1 false:=⟨runUnderlying47,S47,isAgg47⟩
instance:TT prog 49 t48.desc 3 true:=⟨U49,sizeOf49,isAgg49⟩
instance:TT prog 53 t52.desc 1 false:=⟨U53,US,G53⟩
instance:TT prog 57 t3.desc 1 false:=⟨U57,sizeOf57,isAgg57⟩
instance:TT prog 62 t62.desc 1 false:=⟨Hk,sizeOf62,isAgg62⟩
instance:TT prog 65 t64.desc 8 true:=⟨Qj,Su,UO⟩
instance:TT prog 67 t66.desc 11 true:=⟨U67,OZ,G67⟩
instance:TT prog 71 t71.desc 1 false:=⟨U71,S71,isAgg71⟩
instance:TT prog 73 t72.desc 1 true:=⟨U73,sizeOf73,isAgg73⟩
instance:TT prog 75 t75.desc 1 false:=⟨U75,PA,isAgg75⟩
instance:TT prog 76 t76.desc 1 false:=⟨runUnderlying76,sizeOf76,isAgg76⟩
instance:TT prog 78 t77.desc 2 true:=⟨U78,sizeOf78,isAgg78⟩
instance:TT prog 81 t81.desc 1 false:=⟨runUnderlying81,ZU,isAgg81⟩
instance:TT prog 82 t82.desc 1 false:=⟨VD,XA,ZL⟩
instance:TT prog 95 t94.desc 11 true:=⟨U95,S95,isAgg95⟩
instance:TT prog 99 t98.desc 9 true:=⟨U99,Gb,isAgg99⟩
instance:TT prog 106 t105.desc 13 true:=⟨HY,Mx,OV⟩
instance:TT prog 114 t114.desc 1 false:=⟨uJ,Fq,OW⟩
instance:TT prog 115 t115.desc 1 false:=⟨ZW,sizeOf115,isAgg115⟩
instance:TT prog 126 t126.desc 1 false:=⟨runUnderlying126,sizeOf126,isAgg126⟩
instance:TT prog 127 t127.desc 1 false:=⟨runUnderlying127,sizeOf127,isAgg127⟩
instance:TT prog 131 t131.desc 1 false:=⟨runUnderlying131,sizeOf131,isAgg131⟩
instance:TT prog 134 t134.desc 1 false:=⟨runUnderlying134,Np,Sr⟩
instance:TT prog 136 t135.desc 4 true:=⟨ZX,sizeOf136,isAgg136⟩
instance:TT prog 137 t137.desc 1 false:=⟨UT,sizeOf137,isAgg137⟩
instance:TT prog 139 t138.desc 4 true:=⟨UU,sizeOf139,isAgg139⟩
instance:TT prog 140 t140.desc 1 false:=⟨Xd,sizeOf140,isAgg140⟩
instance:TT prog 141 t141.desc 1 false:=⟨runUnderlying141,UP,isAgg141⟩
instance:TT prog 143 t142.desc 3 true:=⟨ZY,OX,isAgg143⟩
instance:TT prog 144 t144.desc 1 false:=⟨Iu,OY,isAgg144⟩
instance:TT prog 146 t145.desc 17 true:=⟨PB,UQ,isAgg146⟩
instance:TT prog 148 t147.desc 2 true:=⟨ZZ,sizeOf148,isAgg148⟩
instance:TT prog 150 t149.desc 7 true:=⟨UW,UR,isAgg150⟩
instance:TT prog 151 t151.desc 1 false:=⟨Dk,sizeOf151,isAgg151⟩
instance:TT prog 153 t152.desc 26 true:=⟨UX,sizeOf153,isAgg153⟩
instance:TT prog 156 t156.desc 1 false:=⟨runUnderlying156,Ss,isAgg156⟩
instance:TT prog 158 t158.desc 1 false:=⟨runUnderlying158,sizeOf158,isAgg158⟩
instance:TT prog 162 t161.desc 0 true:=⟨aAa,sizeOf162,isAgg162⟩
instance:TT prog 164 t163.desc 1 true:=⟨UY,sizeOf164,isAgg164⟩
instance:TT prog 166 t165.desc 1 true:=⟨UZ,sizeOf166,isAgg166⟩
instance:TT prog 167 t161.desc 0 true:=⟨aAb,sizeOf167,isAgg167⟩
instance:TT prog 168 t168.desc 1 false:=⟨runUnderlying168,sizeOf168,isAgg168⟩
instance:TT prog 170 t169.desc 1 false:=⟨runUnderlying170,sizeOf170,isAgg170⟩
instance:TT prog 188 t187.desc 1 false:=⟨runUnderlying188,sizeOf188,isAgg188⟩
instance:TT prog 196 t195.desc 3 true:=⟨VA,Nq,isAgg196⟩
instance:TT prog 202 t202.desc 1 false:=⟨runUnderlying202,sizeOf202,isAgg202⟩
instance:TT prog 205 t204.desc 3 true:=⟨HZ,Xc,AE⟩
instance:TT prog 209 t209.desc 1 false:=⟨runUnderlying209,sizeOf209,isAgg209⟩
instance:TT prog 214 t214.desc 1 false:=⟨aAc,sizeOf214,isAgg214⟩
instance:TT prog 216 t215.desc 2 true:=⟨aAd,sizeOf216,isAgg216⟩
instance:TT prog 219 t219.desc 1 false:=⟨runUnderlying219,sizeOf219,isAgg219⟩
instance:TT prog 221 t221.desc 1 false:=⟨runUnderlying221,sizeOf221,isAgg221⟩
instance:TT prog 237 t237.desc 1 false:=⟨runUnderlying237,sizeOf237,isAgg237⟩
instance:TT prog 241 t241.desc 1 false:=⟨runUnderlying241,sizeOf241,isAgg241⟩
instance:TT prog 244 t244.desc 1 false:=⟨runUnderlying244,sizeOf244,isAgg244⟩
instance:TT prog 247 t246.desc 3 true:=⟨PC,HX,UN⟩
instance:TT prog 249 t248.desc 4 true:=⟨AG,sizeOf249,isAgg249⟩
instance:TT prog 258 t257.desc 2 true:=⟨VB,sizeOf258,isAgg258⟩
instance:TT prog 264 t264.desc 1 false:=⟨aAe,sizeOf264,isAgg264⟩
instance:TT prog 291 t291.desc 1 false:=⟨runUnderlying291,sizeOf291,isAgg291⟩
instance:TT prog 306 t306.desc 1 false:=⟨runUnderlying306,sizeOf306,isAgg306⟩
instance:TT prog 307 t307.desc 32 true:=⟨runUnderlying307,sizeOf307,isAgg307⟩
instance:TT prog 317 t317.desc 1 false:=⟨runUnderlying317,sizeOf317,isAgg317⟩
instance:TT prog 339 t339.desc 4 true:=⟨VC,sizeOf339,isAgg339⟩
instance:TT prog 340 t340.desc 1 false:=⟨runUnderlying340,sizeOf340,isAgg340⟩
instance:TT prog 342 t341.desc 1 true:=⟨PE,sizeOf342,isAgg342⟩
instance:TT prog 347 t346.desc 1 false:=⟨runUnderlying347,sizeOf347,isAgg347⟩
instance:TT prog 356 t356.desc 1 false:=⟨runUnderlying356,sizeOf356,isAgg356⟩
instance:TT prog 358 t357.desc 1 false:=⟨runUnderlying358,sizeOf358,isAgg358⟩
instance:TT prog 363 t363.desc 1 false:=⟨runUnderlying363,sizeOf363,isAgg363⟩
instance:TT prog 369 t369.desc 1 false:=⟨Sv,sizeOf369,isAgg369⟩
instance:TT prog 371 t371.desc 1 false:=⟨runUnderlying371,sizeOf371,isAgg371⟩
instance:TT prog 373 t373.desc 1 false:=⟨runUnderlying373,sizeOf373,isAgg373⟩
instance:TT prog 377 t377.desc 1 false:=⟨runUnderlying377,sizeOf377,isAgg377⟩
instance:TT prog 385 t385.desc 1 false:=⟨runUnderlying385,sizeOf385,isAgg385⟩
instance:TI prog 3 t3:=⟨I3⟩
instance:TI prog 5 t5:=⟨I5⟩
instance:TI prog 9 t9:=⟨typeInfo9⟩
instance:TI prog 26 t26:=⟨typeInfo26⟩
instance:TI prog 57 t57:=⟨typeInfo57⟩
instance:TI prog 65 t65:=⟨QH⟩
instance:TI prog 67 t67:=⟨I67⟩
instance:TI prog 75 t75:=⟨typeInfo75⟩
instance:TI prog 81 t81:=⟨typeInfo81⟩
instance:TI prog 82 t82:=⟨typeInfo82⟩
instance:TI prog 95 t95:=⟨I95⟩
instance:TI prog 99 t99:=⟨ZS⟩
instance:TI prog 106 t106:=⟨ZM⟩
instance:TI prog 156 t156:=⟨ZN⟩
instance:TI prog 196 t196:=⟨ZO⟩
instance:TI prog 205 t205:=⟨ZP⟩
instance:TI prog 258 t258:=⟨ZQ⟩
instance:TI prog 339 t339:=⟨typeInfo339⟩
instance:ZV prog 3 (.int .i64 0):=⟨Z3⟩
instance:ZV prog 5 (.int .u8 0):=⟨Z5⟩
instance:ZV prog 9 (.string ByteArray.empty):=⟨zeroValue9⟩
instance:ZV prog 26 (.slice none 0 0):=⟨zeroValue26⟩
instance:ZV prog 65 (.agg #[.int .u8 0,.int .u8 0,.int .u8 0,.int .u8 0,.int .u8 0,.int .u8 0,.int .u8 0,.int .u8 0]):=⟨QI⟩
instance:ZV prog 67 (.agg #[.int .i64 0,.int .i64 0,.int .i64 0,.int .u8 0,.int .u8 0,.int .u8 0,.int .u8 0,.int .u8 0,.int .u8 0,.int .u8 0,.int .u8 0]):=⟨Z67⟩
instance:ZV prog 75 (.slice none 0 0):=⟨Z75⟩
instance:ZV prog 81 (.int .u64 0):=⟨zeroValue81⟩
instance:ZV prog 82 (.slice none 0 0):=⟨Z82⟩
instance:ZV prog 95 (.agg #[.int .i64 0,.int .i64 0,.int .i64 0,.int .u8 0,.int .u8 0,.int .u8 0,.int .u8 0,.int .u8 0,.int .u8 0,.int .u8 0,.int .u8 0]):=⟨Z95⟩
instance:ZV prog 99 (.agg #[.int .i64 0,.int .u8 0,.int .u8 0,.int .u8 0,.int .u8 0,.int .u8 0,.int .u8 0,.int .u8 0,.int .u8 0]):=⟨Z99⟩
instance:ZV prog 106 (.agg #[.int .i64 0,.int .u8 0,.int .u8 0,.int .u8 0,.int .u8 0,.int .u8 0,.int .u8 0,.int .u8 0,.int .u8 0,.int .i64 0,.int .i64 0,.int .i64 0,.slice none 0 0]):=⟨Xe⟩
instance:ZV prog 156 (.nilFunc):=⟨IA⟩
instance:ZV prog 170 (.nilIface):=⟨zeroValue170⟩
instance:ZV prog 196 (.agg #[.bool false,.bool false,.slice none 0 0]):=⟨VE⟩
instance:ZV prog 205 (.agg #[.int .i64 0,.slice none 0 0,.slice none 0 0]):=⟨PF⟩
instance:ZV prog 258 (.agg #[.int .i64 0,.slice none 0 0]):=⟨VF⟩
instance:ZA prog 3 [aP 0]:=⟨_,_,Z3,rfl,(.cons zI .nil)⟩
instance:ZA prog 24 [.v (Fu.H2 (.pointer none) rfl) ()]:=⟨_,_,zeroValue24,rfl,(.cons (Z.H2 (u:=(.pointer none)) rfl) .nil)⟩
instance:ZA prog 49 [aP 0,aP 0,.v (Fu.fns [32,33,34,35,36,37]) (6:Nat)]:=⟨_,_,zeroValue49,rfl,(.cons zI (.cons zI (.cons (Z.fns [32,33,34,35,36,37] 6 rfl) .nil)))⟩
instance:ZA prog 53 [iW none]:=⟨_,_,zeroValue53,rfl,(.cons (Z.err ET) .nil)⟩
instance:ZA prog 65 [sJ aE]:=⟨_,_,QI,rfl,(.cons (Z.arr 8 (Z.int .u8)) .nil)⟩
instance:ZA prog 67 [aP 0,aP 0,aP 0,sJ aE]:=⟨_,_,Z67,rfl,(.cons zI (.cons zI (.cons zI (.cons (Z.arr 8 (Z.int .u8)) .nil))))⟩
instance:ZA prog 73 [Iy []]:=⟨_,_,Z73,rfl,(.cons (Z.sl Hl) .nil)⟩
instance:ZA prog 82 [Ck []]:=⟨_,_,Z82,rfl,(.cons (Z.sl Xr) .nil)⟩
instance:ZA prog 95 [aP 0,aP 0,aP 0,sJ aE]:=⟨_,_,Z95,rfl,(.cons zI (.cons zI (.cons zI (.cons (Z.arr 8 (Z.int .u8)) .nil))))⟩
instance:ZA prog 99 [aP 0,sJ aE]:=⟨_,_,Z99,rfl,(.cons zI (.cons (Z.arr 8 (Z.int .u8)) .nil))⟩
instance:ZA prog 106 [aP 0,sJ aE,aP 0,aP 0,aP 0,rI []]:=⟨_,_,Xe,rfl,(.cons zI (.cons (Z.arr 8 (Z.int .u8)) (.cons zI (.cons zI (.cons zI (.cons (Z.sl aK) .nil))))))⟩
instance:ZA prog 114 [Dm []]:=⟨_,_,zeroValue114,rfl,(.cons (Z.sl iV) .nil)⟩
instance:ZA prog 139 [aP 0,Dm [],Xg [],wH false]:=⟨_,_,zeroValue139,rfl,(.cons zI (.cons (Z.sl iV) (.cons (Z.sl vF) (.cons Z.bool .nil))))⟩
instance:ZA prog 143 [aP 0,aP 0,IE []]:=⟨_,_,zeroValue143,rfl,(.cons zI (.cons zI (.cons (Z.sl Fs) .nil)))⟩
instance:ZA prog 148 [aP 0,aP 0]:=⟨_,_,zeroValue148,rfl,(.cons zI (.cons zI .nil))⟩
instance:ZA prog 196 [wH false,wH false,tZ []]:=⟨_,_,VE,rfl,(.cons Z.bool (.cons Z.bool (.cons (Z.sl xX) .nil)))⟩
instance:ZA prog 205 [aP 0,wQ [],rI []]:=⟨_,_,PF,rfl,(.cons zI (.cons (Z.sl dX) (.cons (Z.sl aK) .nil)))⟩
instance:ZA prog 247 [rI [],Dm [],aP 0]:=⟨_,_,zeroValue247,rfl,(.cons (Z.sl aK) (.cons (Z.sl iV) (.cons zI .nil)))⟩
instance:ZA prog 258 [aP 0,Dm []]:=⟨_,_,VF,rfl,(.cons zI (.cons (Z.sl iV) .nil))⟩
instance:ZA prog 307 [ID (List.replicate 32 none)]:=⟨_,_,zeroValue307,rfl,(.cons (Z.arr 32 (Z.we iV)) .nil)⟩
instance:BD prog 44 [(0,1),(1,1),(2,1)] [aP 0,Fv [],.v (Fu.H2 (.pointer none) rfl) ()]:=⟨[.int .i64 0,.slice none 0 0,.pointer none],aI typeInfo44 U44 rfl rfl (.k (.k (.k .nil))),(.cons zI (.cons (Z.sl uK) (.cons (Z.H2 (u:=(.pointer none)) rfl) .nil)))⟩
instance:BD prog 49 [(0,1),(1,1),(2,1)] [aP 0,aP 0,.v (Fu.fns [32,33,34,35,36,37]) (6:Nat)]:=⟨[.int .i64 0,.int .i64 0,.nilFunc],aI typeInfo49 U49 rfl rfl (.k (.k (.k .nil))),(.cons zI (.cons zI (.cons (Z.fns [32,33,34,35,36,37] 6 rfl) .nil)))⟩
instance:BD prog 67 [(0,1),(1,1),(2,1),(3,8)] [aP 0,aP 0,aP 0,sJ aE]:=⟨[.int .i64 0,.int .i64 0,.int .i64 0,.int .u8 0,.int .u8 0,.int .u8 0,.int .u8 0,.int .u8 0,.int .u8 0,.int .u8 0,.int .u8 0],aI I67 U67 rfl rfl (.k (.k (.k (.k .nil)))),(.cons zI (.cons zI (.cons zI (.cons (Z.arr 8 (Z.int .u8)) .nil))))⟩
instance:BD prog 73 [(0,1)] [Iy []]:=⟨[.slice none 0 0],aI typeInfo73 U73 rfl rfl (.k .nil),(.cons (Z.sl Hl) .nil)⟩
instance:BD prog 78 [(0,1),(1,1)] [rI [],.v e9q []]:=⟨[.slice none 0 0,.slice none 0 0],aI typeInfo78 U78 rfl rfl (.k (.k .nil)),(.cons (Z.sl aK) (.cons (Z.sl tY) .nil))⟩
instance:BD prog 95 [(0,1),(1,1),(2,1),(3,8)] [aP 0,aP 0,aP 0,sJ aE]:=⟨[.int .i64 0,.int .i64 0,.int .i64 0,.int .u8 0,.int .u8 0,.int .u8 0,.int .u8 0,.int .u8 0,.int .u8 0,.int .u8 0,.int .u8 0],aI I95 U95 rfl rfl (.k (.k (.k (.k .nil)))),(.cons zI (.cons zI (.cons zI (.cons (Z.arr 8 (Z.int .u8)) .nil))))⟩
instance:BD prog 99 [(0,1),(1,8)] [aP 0,sJ aE]:=⟨[.int .i64 0,.int .u8 0,.int .u8 0,.int .u8 0,.int .u8 0,.int .u8 0,.int .u8 0,.int .u8 0,.int .u8 0],aI ZS U99 rfl rfl (.k (.k .nil)),(.cons zI (.cons (Z.arr 8 (Z.int .u8)) .nil))⟩
instance:BD prog 106 [(0,1),(1,8),(9,1),(10,1),(11,1),(12,1)] [aP 0,sJ aE,aP 0,aP 0,aP 0,rI []]:=⟨[.int .i64 0,.int .u8 0,.int .u8 0,.int .u8 0,.int .u8 0,.int .u8 0,.int .u8 0,.int .u8 0,.int .u8 0,.int .i64 0,.int .i64 0,.int .i64 0,.slice none 0 0],aI ZM HY rfl rfl (.k (.k (.k (.k (.k (.k .nil)))))),(.cons zI (.cons (Z.arr 8 (Z.int .u8)) (.cons zI (.cons zI (.cons zI (.cons (Z.sl aK) .nil))))))⟩
instance:BD prog 136 [(0,1),(1,1),(2,1),(3,1)] [.v (Fu.H2 (.pointer none) rfl) (),aP 0,aP 0,aP 0]:=⟨[.pointer none,.int .i64 0,.int .i64 0,.int .i64 0],aI typeInfo136 ZX rfl rfl (.k (.k (.k (.k .nil)))),(.cons (Z.H2 (u:=(.pointer none)) rfl) (.cons zI (.cons zI (.cons zI .nil))))⟩
instance:BD prog 139 [(0,1),(1,1),(2,1),(3,1)] [aP 0,Dm [],Xg [],wH false]:=⟨[.int .i64 0,.slice none 0 0,.slice none 0 0,.bool false],aI typeInfo139 UU rfl rfl (.k (.k (.k (.k .nil)))),(.cons zI (.cons (Z.sl iV) (.cons (Z.sl vF) (.cons Z.bool .nil))))⟩
instance:BD prog 143 [(0,1),(1,1),(2,1)] [aP 0,aP 0,IE []]:=⟨[.int .i64 0,.int .i64 0,.slice none 0 0],aI typeInfo143 ZY rfl rfl (.k (.k (.k .nil))),(.cons zI (.cons zI (.cons (Z.sl Fs) .nil)))⟩
instance:BD prog 146 [(0,4),(4,1),(5,4),(9,1),(10,1),(11,3),(14,1),(15,1),(16,1)] [.v (Fu.H2 (.pointer none) rfl) (),aP 0,aP 0,aP 0,rI [],Ft (0,[],[],false),.v aAj [],aP 0,Iw (0,0,[]),aP 0,aP 0,wQ []]:=⟨[.pointer none,.int .i64 0,.int .i64 0,.int .i64 0,.slice none 0 0,.int .i64 0,.slice none 0 0,.slice none 0 0,.bool false,.map none,.int .i64 0,.int .i64 0,.int .i64 0,.slice none 0 0,.int .i64 0,.int .i64 0,.slice none 0 0],aI typeInfo146 PB rfl rfl (.k (.k (.k (.k (.k (.k (.k (.k (.k .nil))))))))),(.cons (Z.H2 (u:=(.pointer none)) rfl) (.cons zI (.cons zI (.cons zI (.cons (Z.sl aK) (.cons (Z.pr zI (Z.pr (Z.sl iV) (Z.pr (Z.sl vF) Z.bool))) (.cons (Z.mpF dX tY) (.cons zI (.cons (Z.pr zI (Z.pr zI (Z.sl Fs))) (.cons zI (.cons zI (.cons (Z.sl dX) .nil))))))))))))⟩
instance:BD prog 148 [(0,1),(1,1)] [aP 0,aP 0]:=⟨[.int .i64 0,.int .i64 0],aI typeInfo148 ZZ rfl rfl (.k (.k .nil)),(.cons zI (.cons zI .nil))⟩
instance:BD prog 150 [(0,4),(4,1),(5,2)] [.v (Fu.H2 (.pointer none) rfl) (),aP 0,aP 0,aP 0,aP 0,AL (0,0)]:=⟨[.pointer none,.int .i64 0,.int .i64 0,.int .i64 0,.int .i64 0,.int .i64 0,.int .i64 0],aI typeInfo150 UW rfl rfl (.k (.k (.k .nil))),(.cons (Z.H2 (u:=(.pointer none)) rfl) (.cons zI (.cons zI (.cons zI (.cons zI (.cons (Z.pr zI zI) .nil))))))⟩
instance:BD prog 153 [(0,1),(1,17),(18,7),(25,1)] [aP 0,.v (Fu.H2 (.pointer none) rfl) (),aP 0,aP 0,aP 0,rI [],Ft (0,[],[],false),.v aAj [],aP 0,Iw (0,0,[]),aP 0,aP 0,wQ [],.v (Fu.H2 (.pointer none) rfl) (),aP 0,aP 0,aP 0,aP 0,AL (0,0),.v (Fu.sl pQ) []]:=⟨[.int .i64 0,.pointer none,.int .i64 0,.int .i64 0,.int .i64 0,.slice none 0 0,.int .i64 0,.slice none 0 0,.slice none 0 0,.bool false,.map none,.int .i64 0,.int .i64 0,.int .i64 0,.slice none 0 0,.int .i64 0,.int .i64 0,.slice none 0 0,.pointer none,.int .i64 0,.int .i64 0,.int .i64 0,.int .i64 0,.int .i64 0,.int .i64 0,.slice none 0 0],aI typeInfo153 UX rfl rfl (.k (.k (.k (.k .nil)))),(.cons zI (.cons (Z.H2 (u:=(.pointer none)) rfl) (.cons zI (.cons zI (.cons zI (.cons (Z.sl aK) (.cons (Z.pr zI (Z.pr (Z.sl iV) (Z.pr (Z.sl vF) Z.bool))) (.cons (Z.mpF dX tY) (.cons zI (.cons (Z.pr zI (Z.pr zI (Z.sl Fs))) (.cons zI (.cons zI (.cons (Z.sl dX) (.cons (Z.H2 (u:=(.pointer none)) rfl) (.cons zI (.cons zI (.cons zI (.cons zI (.cons (Z.pr zI zI) (.cons (Z.sl pQ) .nil))))))))))))))))))))⟩
instance:BD prog 164 [(0,1)] [AN none]:=⟨[.pointer none],aI typeInfo164 UY rfl rfl (.k .nil),(.cons (Z.we IC) .nil)⟩
instance:BD prog 166 [(0,1)] [rI []]:=⟨[.slice none 0 0],aI typeInfo166 UZ rfl rfl (.k .nil),(.cons (Z.sl aK) .nil)⟩
instance:BD prog 196 [(0,1),(1,1),(2,1)] [wH false,wH false,tZ []]:=⟨[.bool false,.bool false,.slice none 0 0],aI ZO VA rfl rfl (.k (.k (.k .nil))),(.cons Z.bool (.cons Z.bool (.cons (Z.sl xX) .nil)))⟩
instance:BD prog 205 [(0,1),(1,1),(2,1)] [aP 0,wQ [],rI []]:=⟨[.int .i64 0,.slice none 0 0,.slice none 0 0],aI ZP HZ rfl rfl (.k (.k (.k .nil))),(.cons zI (.cons (Z.sl dX) (.cons (Z.sl aK) .nil)))⟩
instance:BD prog 216 [(0,1),(1,1)] [rI [],.v aDu []]:=⟨[.slice none 0 0,.map none],aI typeInfo216 aAd rfl rfl (.k (.k .nil)),(.cons (Z.sl aK) (.cons (Z.mpF aK IB) .nil))⟩
instance:BD prog 247 [(0,1),(1,1),(2,1)] [rI [],Dm [],aP 0]:=⟨[.slice none 0 0,.slice none 0 0,.int .i64 0],aI typeInfo247 PC rfl rfl (.k (.k (.k .nil))),(.cons (Z.sl aK) (.cons (Z.sl iV) (.cons zI .nil)))⟩
instance:BD prog 249 [(0,1),(1,3)] [aP 0,IM ([],[],0)]:=⟨[.int .i64 0,.slice none 0 0,.slice none 0 0,.int .i64 0],aI typeInfo249 AG rfl rfl (.k (.k .nil)),(.cons zI (.cons (Z.pr (Z.sl aK) (Z.pr (Z.sl iV) zI)) .nil))⟩
instance:BD prog 258 [(0,1),(1,1)] [aP 0,Dm []]:=⟨[.int .i64 0,.slice none 0 0],aI ZQ VB rfl rfl (.k (.k .nil)),(.cons zI (.cons (Z.sl iV) .nil))⟩
instance:BD prog 342 [(0,1)] [tZ []]:=⟨[.slice none 0 0],aI typeInfo342 PE rfl rfl (.k .nil),(.cons (Z.sl xX) .nil)⟩
instance:EN 26 5 Int xX:=⟨⟩
instance:EN 29 67 (Int×Int×Int×aD) uK:=⟨⟩
instance:EN 36 9 Q6 Fu.str:=⟨⟩
instance:EN 71 82 Q6 Hl:=⟨⟩
instance:EN 75 65 aD aK:=⟨⟩
instance:EN 76 75 Q9 tY:=⟨⟩
instance:EN 82 81 Int Xr:=⟨⟩
instance:EN 114 99 (Int×aD) iV:=⟨⟩
instance:EN 115 95 (Int×Int×Int×aD) uK:=⟨⟩
instance:EN 127 106 (Int×aD×Int×Int×Int×Q9) Sx:=⟨⟩
instance:EN 137 258 (Int×Iv) vF:=⟨⟩
instance:EN 141 205 (Int×Q6×Q9) Fs:=⟨⟩
instance:EN 144 3 Int dX:=⟨⟩
instance:EN 151 196 (Bool×Bool×Q6) pQ:=⟨⟩
instance:EN 168 170 oC Lj:=⟨⟩
instance:EN 209 26 Q6 XC:=⟨⟩
instance:ZR prog 65 aK aE:=⟨_,_,_,_,_,QH,Qj,I5,rfl,rfl,(Z.arr 8 (Z.int .u8))⟩
instance:SF prog 31 [0,2,3]:=⟨_,IK,(.cons sizeOf28 rfl (.cons S3 rfl (.cons AF rfl .nil)))⟩
instance:SF prog 44 [0,1,2]:=⟨_,U44,(.cons S3 rfl (.cons AF rfl (.cons S42 rfl .nil)))⟩
instance:SF prog 49 [0,1,2]:=⟨_,U49,(.cons S3 rfl (.cons S3 rfl (.cons S47 rfl .nil)))⟩
instance:SF prog 67 [0,1,2,3]:=⟨_,U67,(.cons S3 rfl (.cons S3 rfl (.cons S3 rfl (.cons Su rfl .nil))))⟩
instance:SF prog 73 [0]:=⟨_,U73,(.cons S71 rfl .nil)⟩
instance:SF prog 78 [0,1]:=⟨_,U78,(.cons PA rfl (.cons sizeOf76 rfl .nil))⟩
instance:SF prog 95 [0,1,2,3]:=⟨_,U95,(.cons S3 rfl (.cons S3 rfl (.cons S3 rfl (.cons Su rfl .nil))))⟩
instance:SF prog 99 [0,1]:=⟨_,U99,(.cons S3 rfl (.cons Su rfl .nil))⟩
instance:SF prog 106 [0,1,9,10,11,12]:=⟨_,HY,(.cons sizeOf57 rfl (.cons Su rfl (.cons S3 rfl (.cons S3 rfl (.cons S3 rfl (.cons PA rfl .nil))))))⟩
instance:SF prog 136 [0,1,2,3]:=⟨_,ZX,(.cons Np rfl (.cons S3 rfl (.cons S3 rfl (.cons S3 rfl .nil))))⟩
instance:SF prog 139 [0,1,2,3]:=⟨_,UU,(.cons S3 rfl (.cons Fq rfl (.cons sizeOf137 rfl (.cons S4 rfl .nil))))⟩
instance:SF prog 143 [0,1,2]:=⟨_,ZY,(.cons S3 rfl (.cons S3 rfl (.cons UP rfl .nil)))⟩
instance:SF prog 146 [0,4,5,9,10,11,14,15,16]:=⟨_,PB,(.cons sizeOf136 rfl (.cons PA rfl (.cons sizeOf139 rfl (.cons sizeOf140 rfl (.cons S3 rfl (.cons OX rfl (.cons S3 rfl (.cons S3 rfl (.cons OY rfl .nil)))))))))⟩
instance:SF prog 148 [0,1]:=⟨_,ZZ,(.cons S3 rfl (.cons S3 rfl .nil))⟩
instance:SF prog 150 [0,4,5]:=⟨_,UW,(.cons sizeOf136 rfl (.cons S3 rfl (.cons sizeOf148 rfl .nil)))⟩
instance:SF prog 153 [0,1,18,25]:=⟨_,UX,(.cons S3 rfl (.cons UQ rfl (.cons UR rfl (.cons sizeOf151 rfl .nil))))⟩
instance:SF prog 164 [0]:=⟨_,UY,(.cons sizeOf158 rfl .nil)⟩
instance:SF prog 166 [0]:=⟨_,UZ,(.cons PA rfl .nil)⟩
instance:SF prog 196 [0,1,2]:=⟨_,VA,(.cons S4 rfl (.cons S4 rfl (.cons ZT rfl .nil)))⟩
instance:SF prog 205 [0,1,2]:=⟨_,HZ,(.cons S3 rfl (.cons OY rfl (.cons PA rfl .nil)))⟩
instance:SF prog 216 [0,1]:=⟨_,aAd,(.cons PA rfl (.cons sizeOf214 rfl .nil))⟩
instance:SF prog 247 [0,1,2]:=⟨_,PC,(.cons PA rfl (.cons Fq rfl (.cons S3 rfl .nil)))⟩
instance:SF prog 249 [0,1]:=⟨_,AG,(.cons S3 rfl (.cons HX rfl .nil))⟩
instance:SF prog 258 [0,1]:=⟨_,VB,(.cons S3 rfl (.cons Fq rfl .nil))⟩
instance:SF prog 342 [0]:=⟨_,PE,(.cons ZT rfl .nil)⟩
instance:ZE prog 65 aK aE:=⟨_,_,QH,Su,rfl,rfl,(Z.arr 8 (Z.int .u8))⟩
instance:MT 62 Q6 Int Fu.str dX:=⟨⟩
instance:MT 140 Int Q9 dX tY:=⟨⟩
instance:MT 214 aD Q6 aK IB:=⟨⟩
instance:MT 264 aD Bool aK Fu.bool:=⟨⟩
theorem PL:oz 2 prog 65 aK:=oz.arr Qj S5 G5 (oz.int underlying5)
theorem XD:oz 2 prog 339 (Fu.arr 4 xX):=oz.arr VC S5 G5 (oz.int underlying5)
instance:EQ prog 65 2 aK:=⟨PL,eqGuardType65⟩
instance:EQ prog 339 2 (Fu.arr 4 xX):=⟨XD,eqGuardType339⟩
instance:ER ET:=⟨⟩
instance:MX prog:=⟨checked.mixed⟩
end
section
open Go.Sw Go.Mo Go.Proofs.Tryz
set_option maxHeartbeats 4000000
set_option maxRecDepth 100000
theorem mixed:prog.follows .mixedOrders=true:=checked.mixed
theorem DX:C7 2 prog 65 aK:=C7.arr Qj S5 G5 (C7.int U5)
theorem VL:∀parts,prog.built 31 parts=Instr.fill (([(0,2),(2,1),(3,1)]:List (Nat×Nat)).toArray[·]?) ([.pointer none,.slice none 0 0,.int .i64 0,.slice none 0 0]:List aA4).toArray parts:=aI typeInfo31 IK rfl rfl (.k (.k (.k .nil)))
theorem VM:∀parts,prog.built 44 parts=Instr.fill (([(0,1),(1,1),(2,1)]:List (Nat×Nat)).toArray[·]?) ([.int .i64 0,.slice none 0 0,.pointer none]:List aA4).toArray parts:=aI typeInfo44 U44 rfl rfl (.k (.k (.k .nil)))
theorem rX:∀parts,prog.built 49 parts=Instr.fill (([(0,1),(1,1),(2,1)]:List (Nat×Nat)).toArray[·]?) ([.int .i64 0,.int .i64 0,.nilFunc]:List aA4).toArray parts:=aI typeInfo49 U49 rfl rfl (.k (.k (.k .nil)))
theorem Fw:∀parts,prog.built 67 parts=Instr.fill (([(0,1),(1,1),(2,1),(3,8)]:List (Nat×Nat)).toArray[·]?) ([.int .i64 0,.int .i64 0,.int .i64 0,.int .u8 0,.int .u8 0,.int .u8 0,.int .u8 0,.int .u8 0,.int .u8 0,.int .u8 0,.int .u8 0]:List aA4).toArray parts:=aI I67 U67 rfl rfl (.k (.k (.k (.k .nil))))
theorem VN:∀parts,prog.built 73 parts=Instr.fill (([(0,1)]:List (Nat×Nat)).toArray[·]?) ([.slice none 0 0]:List aA4).toArray parts:=aI typeInfo73 U73 rfl rfl (.k .nil)
theorem VO:∀parts,prog.built 78 parts=Instr.fill (([(0,1),(1,1)]:List (Nat×Nat)).toArray[·]?) ([.slice none 0 0,.slice none 0 0]:List aA4).toArray parts:=aI typeInfo78 U78 rfl rfl (.k (.k .nil))
theorem DY:∀parts,prog.built 99 parts=Instr.fill (([(0,1),(1,8)]:List (Nat×Nat)).toArray[·]?) ([.int .i64 0,.int .u8 0,.int .u8 0,.int .u8 0,.int .u8 0,.int .u8 0,.int .u8 0,.int .u8 0,.int .u8 0]:List aA4).toArray parts:=aI ZS U99 rfl rfl (.k (.k .nil))
theorem PM:∀parts,prog.built 106 parts=Instr.fill (([(0,1),(1,8),(9,1),(10,1),(11,1),(12,1)]:List (Nat×Nat)).toArray[·]?) ([.int .i64 0,.int .u8 0,.int .u8 0,.int .u8 0,.int .u8 0,.int .u8 0,.int .u8 0,.int .u8 0,.int .u8 0,.int .i64 0,.int .i64 0,.int .i64 0,.slice none 0 0]:List aA4).toArray parts:=aI ZM HY rfl rfl (.k (.k (.k (.k (.k (.k .nil))))))
theorem Xh:∀parts,prog.built 139 parts=Instr.fill (([(0,1),(1,1),(2,1),(3,1)]:List (Nat×Nat)).toArray[·]?) ([.int .i64 0,.slice none 0 0,.slice none 0 0,.bool false]:List aA4).toArray parts:=aI typeInfo139 UU rfl rfl (.k (.k (.k (.k .nil))))
theorem Xi:∀parts,prog.built 146 parts=Instr.fill (([(0,4),(4,1),(5,4),(9,1),(10,1),(11,3),(14,1),(15,1),(16,1)]:List (Nat×Nat)).toArray[·]?) ([.pointer none,.int .i64 0,.int .i64 0,.int .i64 0,.slice none 0 0,.int .i64 0,.slice none 0 0,.slice none 0 0,.bool false,.map none,.int .i64 0,.int .i64 0,.int .i64 0,.slice none 0 0,.int .i64 0,.int .i64 0,.slice none 0 0]:List aA4).toArray parts:=aI typeInfo146 PB rfl rfl (.k (.k (.k (.k (.k (.k (.k (.k (.k .nil)))))))))
theorem Xj:∀parts,prog.built 150 parts=Instr.fill (([(0,4),(4,1),(5,2)]:List (Nat×Nat)).toArray[·]?) ([.pointer none,.int .i64 0,.int .i64 0,.int .i64 0,.int .i64 0,.int .i64 0,.int .i64 0]:List aA4).toArray parts:=aI typeInfo150 UW rfl rfl (.k (.k (.k .nil)))
theorem PN:∀parts,prog.built 153 parts=Instr.fill (([(0,1),(1,17),(18,7),(25,1)]:List (Nat×Nat)).toArray[·]?) ([.int .i64 0,.pointer none,.int .i64 0,.int .i64 0,.int .i64 0,.slice none 0 0,.int .i64 0,.slice none 0 0,.slice none 0 0,.bool false,.map none,.int .i64 0,.int .i64 0,.int .i64 0,.slice none 0 0,.int .i64 0,.int .i64 0,.slice none 0 0,.pointer none,.int .i64 0,.int .i64 0,.int .i64 0,.int .i64 0,.int .i64 0,.int .i64 0,.slice none 0 0]:List aA4).toArray parts:=aI typeInfo153 UX rfl rfl (.k (.k (.k (.k .nil))))
theorem PO:∀parts,prog.built 162 parts=Instr.fill (([]:List (Nat×Nat)).toArray[·]?) ([]:List aA4).toArray parts:=aI typeInfo162 aAa rfl rfl .nil
theorem PQ:∀parts,prog.built 167 parts=Instr.fill (([]:List (Nat×Nat)).toArray[·]?) ([]:List aA4).toArray parts:=aI typeInfo167 aAb rfl rfl .nil
theorem PR:∀parts,prog.built 196 parts=Instr.fill (([(0,1),(1,1),(2,1)]:List (Nat×Nat)).toArray[·]?) ([.bool false,.bool false,.slice none 0 0]:List aA4).toArray parts:=aI ZO VA rfl rfl (.k (.k (.k .nil)))
theorem wR:∀parts,prog.built 205 parts=Instr.fill (([(0,1),(1,1),(2,1)]:List (Nat×Nat)).toArray[·]?) ([.int .i64 0,.slice none 0 0,.slice none 0 0]:List aA4).toArray parts:=aI ZP HZ rfl rfl (.k (.k (.k .nil)))
theorem Fy:∀parts,prog.built 247 parts=Instr.fill (([(0,1),(1,1),(2,1)]:List (Nat×Nat)).toArray[·]?) ([.slice none 0 0,.slice none 0 0,.int .i64 0]:List aA4).toArray parts:=aI typeInfo247 PC rfl rfl (.k (.k (.k .nil)))
theorem Fz:∀parts,prog.built 258 parts=Instr.fill (([(0,1),(1,1)]:List (Nat×Nat)).toArray[·]?) ([.int .i64 0,.slice none 0 0]:List aA4).toArray parts:=aI ZQ VB rfl rfl (.k (.k .nil))
theorem PU:∀parts,prog.built 342 parts=Instr.fill (([(0,1)]:List (Nat×Nat)).toArray[·]?) ([.slice none 0 0]:List aA4).toArray parts:=aI typeInfo342 PE rfl rfl (.k .nil)
instance:fT prog:=⟨_,(.c OV (.c OW (.c Sr (.c isAgg144 (.c isAgg156 (.c isAgg24 (.c UN (.c G26 (.c G3 (.c isAgg339 (.c isAgg47 (.c isAgg57 (.c UO (.c isAgg75 (.c ZL (.c isAgg9 (.c isAgg99 .n))))))))))))))))),_,(.c Mx (.c Fq (.c Np (.c OY (.c Ss (.c Xc (.c sizeOf24 (.c HX (.c ZT (.c sizeOf28 (.c AF (.c S3 (.c sizeOf339 (.c S47 (.c US (.c sizeOf57 (.c Su (.c OZ (.c PA (.c XA (.c S9 (.c Gb .n)))))))))))))))))))))),_,(.c HY (.c uJ (.c ZW (.c runUnderlying127 (.c Iu (.c Dk (.c HZ (.c runUnderlying219 (.c PC (.c AG (.c Xp (.c U3 (.c IK (.c PE (.c U36 (.c Sv (.c U49 (.c U5 (.c U53 (.c U57 (.c U67 (.c U75 (.c runUnderlying81 (.c VD (.c U95 (.c U99 .n)))))))))))))))))))))))))),ET⟩
theorem Y{α:Sort _}{a:α}:a=a:=rfl
abbrev PA0(i:Nat)(ia:Option Nat)(p:Nat)(pa:Option Nat)(q:Nat)(qa:Option Nat)(x y z u:Nat)(b0 b1 b2 b3:Int)(b4:List aD)(b5:Int×List (Int×aD)×List (Int×List (Int×aD))×Bool)(b6:List (Int×List aD))(b7:Int)(b8:Int×Int×List (Int×List Int×List aD))(b9 l9:Int)(o6:List Int)(l8 j9 l7 l6:Int)(o7:Int×Int)(l5:List (Bool×Bool×List Int))(p5:Int)(p4:List aD×List (Int×aD)×Int)(p7:Int)(p6:List aD×List (Int×aD)×Int):List (Nat×j2):=[(i,.box 153 [.v (Fu.int .i64) b0,.ptr p 0,.v (Fu.int .i64) b1,.v (Fu.int .i64) b2,.v (Fu.int .i64) b3,.ref x,.v (Fu.pr (Fu.int .i64) (Fu.pr (Fu.sl (Fu.pr (Fu.int .i64) aK)) (Fu.pr (Fu.sl (Fu.pr (Fu.int .i64) (Fu.sl (Fu.pr (Fu.int .i64) aK)))) Fu.bool))) b5,.ref y,.v (Fu.int .i64) b7,.v (Fu.pr (Fu.int .i64) (Fu.pr (Fu.int .i64) (Fu.sl (Fu.pr (Fu.int .i64) (Fu.pr (Fu.sl (Fu.int .i64)) (Fu.sl aK)))))) b8,.v (Fu.int .i64) b9,.v (Fu.int .i64) l9,.ref z,.ptr q 0,.v (Fu.int .i64) l8,.v (Fu.int .i64) j9,.v (Fu.int .i64) l7,.v (Fu.int .i64) l6,.v (Fu.pr (Fu.int .i64) (Fu.int .i64)) o7,.ref u] ia),(p,.box 249 [.v (Fu.int .i64) p5,.v (Fu.pr (Fu.sl aK) (Fu.pr (Fu.sl (Fu.pr (Fu.int .i64) aK)) (Fu.int .i64))) p4] pa),(q,.box 249 [.v (Fu.int .i64) p7,.v (Fu.pr (Fu.sl aK) (Fu.pr (Fu.sl (Fu.pr (Fu.int .i64) aK)) (Fu.int .i64))) p6] qa),(x,.arr 65 aK b4),(y,.mp (Fu.int .i64) (Fu.sl aK) b6),(z,.arr 3 (Fu.int .i64) o6),(u,.arr 196 (Fu.pr Fu.bool (Fu.pr Fu.bool (Fu.sl (Fu.int .u8)))) l5)]
abbrev PT0(i:Nat)(ia:Option Nat)(p:Nat)(pa:Option Nat)(q:Nat)(qa:Option Nat)(x y z u:Nat)(t:Int×Int×Int×Int×List aD×(Int×List (Int×aD)×List (Int×List (Int×aD))×Bool)×List (Int×List aD)×Int×(Int×Int×List (Int×List Int×List aD))×Int×Int×List Int×Int×Int×Int×Int×(Int×Int)×List (Bool×Bool×List Int)×Int×(List aD×List (Int×aD)×Int)×Int×(List aD×List (Int×aD)×Int)):List (Nat×j2):=PA0 i ia p pa q qa x y z u t.1 t.2.1 t.2.2.1 t.2.2.2.1 t.2.2.2.2.1 t.2.2.2.2.2.1 t.2.2.2.2.2.2.1 t.2.2.2.2.2.2.2.1 t.2.2.2.2.2.2.2.2.1 t.2.2.2.2.2.2.2.2.2.1 t.2.2.2.2.2.2.2.2.2.2.1 t.2.2.2.2.2.2.2.2.2.2.2.1 t.2.2.2.2.2.2.2.2.2.2.2.2.1 t.2.2.2.2.2.2.2.2.2.2.2.2.2.1 t.2.2.2.2.2.2.2.2.2.2.2.2.2.2.1 t.2.2.2.2.2.2.2.2.2.2.2.2.2.2.2.1 t.2.2.2.2.2.2.2.2.2.2.2.2.2.2.2.2.1 t.2.2.2.2.2.2.2.2.2.2.2.2.2.2.2.2.2.1 t.2.2.2.2.2.2.2.2.2.2.2.2.2.2.2.2.2.2.1 t.2.2.2.2.2.2.2.2.2.2.2.2.2.2.2.2.2.2.2.1 t.2.2.2.2.2.2.2.2.2.2.2.2.2.2.2.2.2.2.2.2.1 t.2.2.2.2.2.2.2.2.2.2.2.2.2.2.2.2.2.2.2.2.2
section aXl
open Go.RowKit Go.Extern.Stop Go.Stop Go.Extern
theorem aAu(t:aA4)(w:aAf):Calls prog 134 #[.nilIface,t] w λe w'=>e= .returned (.bool false)/\w'=w:=by
 go_enter func134,ntmps134
 go_wp2
 go_ret
 exact⟨rfl,rfl⟩
theorem Xk(t:aBc)(w:aAf):(ReflectliteValue.unpack (.iface 244 (.pointer (some t)))).run prog w
  = .ok (.agg #[.pointer (some ⟨9,244,none⟩),.pointer (some ⟨w.heap.size,0,none⟩),.int .u64 150]) (w.alloc (.cells #[.pointer (some t)] 244)):=by kernel_rfl
theorem PV(a:aBc)(w:aAf):(ReflectliteValue.methodAny (ReflectliteValue.valueError "reflectlite.Value.Type" 0) (λt _ _ _=>ReflectliteType.toType t) #[.agg #[.pointer (some ⟨9,244,none⟩),.pointer (some a),.int .u64 150]]).run prog w
  = .ok (.iface 327 (.agg #[.pointer (some ⟨9,244,none⟩)])) w:=by kernel_rfl
theorem Ns(h:aA4)(w:aAf):(Go.method 515 327 (.agg #[h]) "Kind").run prog w= .ok (273,h) w:=by kernel_rfl
theorem PW(w:aAf):((ReflectliteType.abiMethod λt=>(λa:Nat=>Value.int IntKind.u8 (a:Int)) <$> Rtype.kind t) #[.pointer (some ⟨9,244,none⟩)]).run prog w= .ok (.int .u8 22) w:=by kernel_rfl
theorem PX(w:aAf):((ReflectliteType.abiMethod λt=>(λa:Nat=>Value.int IntKind.u8 (a:Int)) <$> Rtype.kind t) #[.pointer (some ⟨9,57,none⟩)]).run prog w= .ok (.int .u8 2) w:=by kernel_rfl
theorem PY(z:Sem aA4)(f:aAg->aBc->Nat->Nat->Sem aA4)(v:aA4):
  ReflectliteValue.method z f #[v]=(do match<-ReflectliteValue.parts v with | none=>z | some (t,a,fl)=>f t a fl (fl % 32)):=rfl
theorem Ql(a:aBc)(w:aAf):(ReflectliteValue.parts (.agg #[.pointer (some ⟨9,244,none⟩),.pointer (some a),.int .u64 150])).run prog w= .ok (some (244,a,150)) w:=by kernel_rfl
theorem IF(a p:aBc)(W:aAf)(ha:W.cell? a=some (.pointer (some p))):(ReflectliteValue.method (ReflectliteValue.valueError "reflectlite.Value.IsNil" 0) ReflectliteValue.isNil #[.agg #[.pointer (some ⟨9,244,none⟩),.pointer (some a),.int .u64 150]]).run prog W= .ok (.bool false) W:=by
 rw[PY];simp only[Sem.run_bind,Ql,Result.andThen];simp[ReflectliteValue.isNil,loadVar,isAgg,underlying,underlying244,ha,Result.andThen]
theorem Nt(h:aA4)(w:aAf):(Go.method 515 327 (.agg #[h]) "Elem").run prog w= .ok (295,.agg #[h]) w:=by kernel_rfl
theorem Cl(h:aA4)(w:aAf):(Go.method 515 327 (.agg #[h]) "Implements").run prog w= .ok (296,.agg #[h]) w:=by kernel_rfl
theorem Ak(h:aA4)(w:aAf):(Go.method 515 327 (.agg #[h]) "AssignableTo").run prog w= .ok (293,.agg #[h]) w:=by kernel_rfl
theorem PZ(w:aAf):(ReflectliteType.method ReflectliteType.elem #[.agg #[.pointer (some ⟨9,244,none⟩)]]).run prog w= .ok (.iface 327 (.agg #[.pointer (some ⟨9,57,none⟩)])) w:=by kernel_rfl
theorem Mz(w:aAf):(ReflectliteType.relation "Implements" ReflectliteType.implements_ #[.agg #[.pointer (some ⟨9,57,none⟩)],.iface 327 (.agg #[.pointer (some ⟨9,53,none⟩)])]).run prog w= .ok (.bool true) w:=by kernel_rfl
theorem AP(v:aA4)(w:aAf):(ReflectliteType.typeOf #[.iface 57 v]).run prog w= .ok (.iface 327 (.agg #[.pointer (some ⟨9,57,none⟩)])) w:=by kernel_rfl
theorem Na(w:aAf):(ReflectliteType.relation "AssignableTo" ReflectliteType.assignableTo #[.agg #[.pointer (some ⟨9,57,none⟩)],.iface 327 (.agg #[.pointer (some ⟨9,57,none⟩)])]).run prog w= .ok (.bool true) w:=by kernel_rfl
theorem Xl(n:Int)(w:aAf):(ReflectliteValue.unpack (.iface 57 (.int .i64 n))).run prog w
  = .ok (.agg #[.pointer (some ⟨9,57,none⟩),.pointer (some ⟨w.heap.size,0,none⟩),.int .u64 130]) (w.alloc (.cells #[.int .i64 n] 57)):=by kernel_rfl
theorem AR(w:aAf):(Rtype.elem? 244).run prog w= .ok (some 57) w:=by kernel_rfl
theorem aAv(p:aBc)(w:aAf):(ReflectliteValue.mk 57 p ReflectliteValue.flagAddr).run prog w= .ok (.agg #[.pointer (some ⟨9,57,none⟩),.pointer (some p),.int .u64 386]) w:=by kernel_rfl
theorem IG(a p:aBc)(W:aAf)(ha:W.cell? a=some (.pointer (some p))):(ReflectliteValue.method (ReflectliteValue.valueError "reflectlite.Value.Elem" 0) ReflectliteValue.elem #[.agg #[.pointer (some ⟨9,244,none⟩),.pointer (some a),.int .u64 150]]).run prog W= .ok (.agg #[.pointer (some ⟨9,57,none⟩),.pointer (some p),.int .u64 386]) W:=by
 rw[PY];simp only[Sem.run_bind,Ql,Result.andThen];simp[ReflectliteValue.elem,loadVar,isAgg,underlying,underlying244,ha,Result.andThen,AR,aAv]
theorem aAw(v x:aA4):ReflectliteValue.set #[v,x]=(do
  let (some (dst,a,fl),some (sq0,b,_)):=(<-ReflectliteValue.parts v,<-ReflectliteValue.parts x)
   |unsupported (.noEntry "extern/(internal/reflectlite.Value).Set.zeroValue")
  if fl / ReflectliteValue.flagAddr % 2==0 then unsupported (.noEntry "extern/(internal/reflectlite.Value).Set.unaddressable")
  let val<-loadVar sq0 b
  if<-Rtype.directlyAssignable dst sq0 then storeVar dst a val
  else if<-Rtype.implements dst sq0 then
   if (<-Rtype.kind sq0)==20 then
    match val with
    | .nilIface=>unsupported (.noEntry "extern/reflectlite: a nil value of one interface type handed on as a value of another")
    |_=>storeVar dst a val
   else storeVar dst a (.iface sq0 val)
  else panicString ("reflectlite.Set: value of type "++(<-Rtype.spelt sq0)++ " is not assignable to type "++(<-Rtype.spelt dst))
  pure (.tuple #[])):=rfl
theorem AT(a:aBc)(w:aAf):(ReflectliteValue.parts (.agg #[.pointer (some ⟨9,57,none⟩),.pointer (some a),.int .u64 386])).run prog w= .ok (some (57,a,386)) w:=by kernel_rfl
theorem IH(a:aBc)(w:aAf):(ReflectliteValue.parts (.agg #[.pointer (some ⟨9,57,none⟩),.pointer (some a),.int .u64 130])).run prog w= .ok (some (57,a,130)) w:=by kernel_rfl
theorem AU(w:aAf):(Rtype.directlyAssignable 57 57).run prog w= .ok true w:=by kernel_rfl
theorem VP(ta b:aBc)(n:Int)(ux:aA4)(W:aAf)(hb:W.cell? b=some (.int .i64 n))(ht:W.cell? ta=some ux)(hf:W.frozen? ta=false):(ReflectliteValue.set #[.agg #[.pointer (some ⟨9,57,none⟩),.pointer (some ta),.int .u64 386],.agg #[.pointer (some ⟨9,57,none⟩),.pointer (some b),.int .u64 130]]).run prog W= .ok (.tuple #[]) (W.setCell ta (.int .i64 n)):=by
 rw[aAw];simp only[Sem.run_bind,AT,IH,Result.andThen];simp[ReflectliteValue.flagAddr,loadVar,isAgg,underlying,underlying57,hb,Result.andThen,AU,storeVar,Value.cells,storeCells,Addr.add];rw[run_store prog W ta _ _ (by rfl)];simp[ht,hf]
set_option maxHeartbeats 4000000 in
theorem aAx(n:Int)(t:aBc)(ux:aA4)(w:aAf)(hg:w.cell? ⟨6,0,none⟩=some (.iface 327 (.agg #[.pointer (some ⟨9,53,none⟩)])))(ht0:w.cell? t=some ux)(hf0:w.frozen? t=false):Calls prog 134 #[.iface 57 (.int .i64 n),.iface 244 (.pointer (some t))] w λev w'=>ev= .returned (.bool true)/\w'=((((w.alloc (.cells #[.pointer (some t)] 244)).alloc (.cells #[.pointer (some ⟨9,244,none⟩),.pointer (some ⟨w.heap.size,0,none⟩),.int .u64 150] 281)).alloc (.cells #[.pointer (some ⟨9,244,none⟩),.pointer (some ⟨w.heap.size,0,none⟩),.int .u64 150] 281)).alloc (.cells #[.int .i64 n] 57)).setCell t (.int .i64 n):=by
 have B:= @run_callFunc_extern prog 175 _ (λargs=>ReflectliteValue.unpack (args.getD 0 (.tuple #[]))) func175 (by kernel_rfl) (by kernel_rfl) (by kernel_rfl) (by kernel_rfl);have C:= @run_callFunc_extern prog 176 _ (ReflectliteValue.methodAny (ReflectliteValue.valueError "reflectlite.Value.Type" 0) (λt _ _ _=>ReflectliteType.toType t)) func176 (by kernel_rfl) (by kernel_rfl) (by kernel_rfl) (by kernel_rfl);have D:= @run_callFunc_extern prog 177 _ (ReflectliteValue.method (ReflectliteValue.valueError "reflectlite.Value.IsNil" 0) ReflectliteValue.isNil) func177 (by kernel_rfl) (by kernel_rfl) (by kernel_rfl) (by kernel_rfl);have E:= @run_callFunc_extern prog 273 _ (ReflectliteType.abiMethod λt=>do pure (.int .u8 (<-Rtype.kind t))) func273 (by kernel_rfl) (by kernel_rfl) (by kernel_rfl) (by kernel_rfl);have F:= @run_callFunc_extern prog 295 _ (ReflectliteType.method ReflectliteType.elem) func295 (by kernel_rfl) (by kernel_rfl) (by kernel_rfl) (by kernel_rfl);have G:= @run_callFunc_extern prog 296 _ (ReflectliteType.relation "Implements" ReflectliteType.implements_) func296 (by kernel_rfl) (by kernel_rfl) (by kernel_rfl) (by kernel_rfl);have I:= @run_callFunc_extern prog 206 _ ReflectliteType.typeOf func206 (by kernel_rfl) (by kernel_rfl) (by kernel_rfl) (by kernel_rfl);have K:= @run_callFunc_extern prog 293 _ (ReflectliteType.relation "AssignableTo" ReflectliteType.assignableTo) func293 (by kernel_rfl) (by kernel_rfl) (by kernel_rfl) (by kernel_rfl);have L:= @run_callFunc_extern prog 207 _ (ReflectliteValue.method (ReflectliteValue.valueError "reflectlite.Value.Elem" 0) ReflectliteValue.elem) func207 (by kernel_rfl) (by kernel_rfl) (by kernel_rfl) (by kernel_rfl);have M:= @run_callFunc_extern prog 208 _ ReflectliteValue.set func208 (by kernel_rfl) (by kernel_rfl) (by kernel_rfl) (by kernel_rfl);have N:=AP;have O:=Ak;have P:=Na;have Q:=Xl;have R:=Xk;have S:=PV;have T:=Ns;have U:=Nt;have V:=Cl;have X:=PW;have ab:=PX;have ac:=PZ;have ad:=Mz;have n8:=IF ⟨w.heap.size,0,none⟩ t ((w.alloc (.cells #[.pointer (some t)] 244)).alloc (.cells #[.pointer (some ⟨9,244,none⟩),.pointer (some ⟨w.heap.size,0,none⟩),.int .u64 150] 281)) (by simp);have A:6<w.heap.size:=by
  rcases jl 6 w.heap.size with h | h
  ·exact h
  ·simp[World.cell?,aEl h] at hg
 have ae:((w.alloc (.cells #[.pointer (some t)] 244)).alloc (.cells #[.pointer (some ⟨9,244,none⟩),.pointer (some ⟨w.heap.size,0,none⟩),.int .u64 150] 281)).cell? ⟨6,0,none⟩=some (.iface 327 (.agg #[.pointer (some ⟨9,53,none⟩)])):=by
  rw[World.cell?_alloc_lt _ _ ⟨6,0,none⟩ (by simp<;>omega),World.cell?_alloc_lt _ _ ⟨6,0,none⟩ A];exact hg
 have u:t.block<w.heap.size:=by
  rcases jl t.block w.heap.size with h | h
  ·exact h
  ·simp[World.cell?,aEl h] at ht0
 have el:=IG ⟨w.heap.size,0,none⟩ t (((w.alloc (.cells #[.pointer (some t)] 244)).alloc (.cells #[.pointer (some ⟨9,244,none⟩),.pointer (some ⟨w.heap.size,0,none⟩),.int .u64 150] 281)).alloc (.cells #[.pointer (some ⟨9,244,none⟩),.pointer (some ⟨w.heap.size,0,none⟩),.int .u64 150] 281)) (by rw[World.cell?_alloc_lt _ _ ⟨w.heap.size,0,none⟩ (by simp;omega)];simp);have st:=VP t ⟨w.heap.size+1+1+1,0,none⟩ n ux ((((w.alloc (.cells #[.pointer (some t)] 244)).alloc (.cells #[.pointer (some ⟨9,244,none⟩),.pointer (some ⟨w.heap.size,0,none⟩),.int .u64 150] 281)).alloc (.cells #[.pointer (some ⟨9,244,none⟩),.pointer (some ⟨w.heap.size,0,none⟩),.int .u64 150] 281)).alloc (.cells #[.int .i64 n] 57))
  (by rw[World.cell?_alloc_at _ _ _ _ (by simp)];rfl)
  (by rw[World.cell?_alloc_lt _ _ t (by simp;omega),World.cell?_alloc_lt _ _ t (by simp;omega),World.cell?_alloc_lt _ _ t (by simp;omega),World.cell?_alloc_lt _ _ t u];exact ht0)
  (by rw[World.frozen?_alloc_old _ _ t (by simp;omega),World.frozen?_alloc_old _ _ t (by simp;omega),World.frozen?_alloc_old _ _ t (by simp;omega),World.frozen?_alloc_old _ _ t (Nat.ne_of_lt u)];exact hf0)
 go_enter func134,ntmps134
 go_wp2
 refine wp_loop_rounds 1 ?_;rw[rounds_succ]
 go_wp2
 go_ret
 exact⟨rfl,rfl⟩
end aXl
def GV:aA4:= .iface 327 (.agg #[.pointer (some ⟨9,53,none⟩)])
variable {gobj:List Obj} [GO gobj]
theorem VQ(n:Int)(t:aBc)(ux:aA4)(w:aAf)(hg:w.cell? ⟨6,0,none⟩=some GV)(ht0:w.cell? t=some ux)(hf0:w.frozen? t=false):Calls prog 134 #[.iface 57 (.int .i64 n),.iface 244 (.pointer (some t))] w λev w'=>ev= .returned (.bool true)/\∃o1 o2 o3 o4,w'=((((w.alloc o1).alloc o2).alloc o3).alloc o4).setCell t (.int .i64 n):=(aAx n t ux w hg ht0 hf0).mono λ_ _ h=>⟨h.1,_,_,_,_,h.2⟩
instance {a b:List Int}:MC (Lh a b) prog 67 [.v Fu.str a,.v Fu.str b] (λr:List Int=> .v Fu.str r) (λ_=>[]):=⟨Hi,call67⟩
instance {a:List Int} {c:Int}:MC (KW a c) prog 14 [.v Fu.str a,.v (Fu.int .u8) c] (λr:Int=> .v (Fu.int .i64) r) (λ_=>[]):=⟨Ah,call14⟩
instance {a b:List Int}:MC (Pb a b) prog 9 [.v Fu.str a,.v Fu.str b] (λr:List Int=> .v Fu.str r) (λ_=>[]):=⟨tW,call9⟩
instance {a:List Int}:MC (Uk a) prog 68 [.v Fu.str a] (λr:Int×Option Int=> .q9 [.v (Fu.int .i64) r.1,.v (Fu.err ET) r.2]) (λ_=>[]):=⟨Hj,call68⟩
instance {l:List (List Int)} {a:List Int}:MC (Pa l a) prog 59 [.v (Fu.sl Fu.str) l,.v Fu.str a] (λr:List Int=> .v Fu.str r) (λ_=>[]):=⟨yP,call59⟩
instance {gobj:List Obj} [GO gobj] {n:Int}:F6 (Ba n) prog 17 [.v (Fu.int .i64) n] (λ_=>[(7777,.dp (aH GV) gobj [])]) (λr:List Int=> .v Fu.str r) (λ_ _=>[(7777,.dp (aH GV) gobj [])]):=⟨λA {_} h=>jD A h,ZK⟩
instance {gobj:List Obj} [GO gobj] {a b:List Int}:F6 (Da a b) prog 8 [.v Fu.str a,.v Fu.str b] (λ_=>[(7777,.dp (aH GV) gobj [])]) (λr:List (List Int)=> .v (Fu.sl Fu.str) r) (λ_ _=>[(7777,.dp (aH GV) gobj [])]):=⟨λA {_} h=>xM A h,call8⟩
instance {gobj:List Obj} [GO gobj] {n b:Int}:F6 (fuT n b) prog 55 [.v (Fu.int .u64) n,.v (Fu.int .i64) b] (λ_=>[(7777,.dp (aH GV) gobj [])]) (λr:List Int=> .v Fu.str r) (λ_ _=>[(7777,.dp (aH GV) gobj [])]):=⟨λA {_} h=>tX A h,call55⟩
abbrev aF3(n0 n1 n2 n3 n4 n5 n6 n7 n8:Nat)(x1 x2 x3 x4 x5 x6 x7 x8 x9 Y1 P0 nc bu W8 kk D8 D4 T6 du R5 fh Y0 xk pf):=([(n0,Jv x1 n1 x2 x3 x4 n2 x5 n3 x6 x7 x8 x9 n4 n5 Y1 P0 nc bu W8 n6),(n7,.arr 106 Sx kk),(n8,.dp (aH GV) D8 []),(n1,kZ D4 T6),(n2,.arr 65 aK du),(n3,.mp dX tY R5),(n4,.arr 3 dX fh),(n5,kZ Y0 xk),(n6,.arr 196 pQ pf)]:List (Nat×j2))
abbrev t2q(n0 n1 n2 n3 n4 n5 n6 n7 n8:Nat)(g:List Obj)(t:_×_×_×_×_×_×_×_×_×_×_×_×_×_×_×_×_×_×_×_×_×_×_):=aF3 n0 n1 n2 n3 n4 n5 n6 n7 n8 t.1 t.2.1 t.2.2.1 t.2.2.2.1 t.2.2.2.2.1 t.2.2.2.2.2.1 t.2.2.2.2.2.2.1 t.2.2.2.2.2.2.2.1 t.2.2.2.2.2.2.2.2.1 t.2.2.2.2.2.2.2.2.2.1 t.2.2.2.2.2.2.2.2.2.2.1 t.2.2.2.2.2.2.2.2.2.2.2.1 t.2.2.2.2.2.2.2.2.2.2.2.2.1 t.2.2.2.2.2.2.2.2.2.2.2.2.2.1 t.2.2.2.2.2.2.2.2.2.2.2.2.2.2.1 g t.2.2.2.2.2.2.2.2.2.2.2.2.2.2.2.1 t.2.2.2.2.2.2.2.2.2.2.2.2.2.2.2.2.1 t.2.2.2.2.2.2.2.2.2.2.2.2.2.2.2.2.2.1 t.2.2.2.2.2.2.2.2.2.2.2.2.2.2.2.2.2.2.1 t.2.2.2.2.2.2.2.2.2.2.2.2.2.2.2.2.2.2.2.1 t.2.2.2.2.2.2.2.2.2.2.2.2.2.2.2.2.2.2.2.2.1 t.2.2.2.2.2.2.2.2.2.2.2.2.2.2.2.2.2.2.2.2.2.1 t.2.2.2.2.2.2.2.2.2.2.2.2.2.2.2.2.2.2.2.2.2.2
abbrev aDz(n0 n1 n2 n3 n4 n5 n6 n7 n8 n9:Nat)(x1 x2 x3 x4 x5 x6 x7 x8 x9 Y1 P0 nc bu W8 kk D8 D4 T6 du R5 fh Y0 xk pf fg):=([(n0,AI n1 x1 n1 n1 n1 x2),(n2,Jv x3 n3 x4 x5 x6 n4 x7 n5 x8 x9 Y1 P0 n6 n7 nc bu W8 kk D8 n8),(n9,.dp (aH GV) D4 []),(n3,kZ T6 du),(n4,.arr 65 aK R5),(n5,.mp dX tY fh),(n6,.arr 3 dX Y0),(n7,kZ xk pf),(n8,.arr 196 pQ fg)]:List (Nat×j2))
abbrev aD0:=t2q 27600 5023 5024 5025 5026 5027 5028 5022 7777
abbrev aD1:=aDz 4 0 18600 18601 5077 5078 5079 18602 5080 7777
end
end Go.Cn
