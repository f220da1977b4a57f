/- ConsoleSays: for every text the law answers true, and its argument reads as it did; the card, by its given tie. Conditions: none. -/
import Derived.Test.YthpkohijooimbaaGreatDoorMLConsoleSays
import Derived.Test.YthpkohijooimbaaGreatDoorRowAConsoleSays
import Derived.Test.YthpkohijooimbaaGreatDoorCards
import Derived.Test.YthpkohijooimbaaGreatDoorTie
import Derived.SevenTiedAt
set_option linter.unusedVariables false
set_option linter.unusedSimpArgs false
set_option linter.unusedSectionVars false
namespace Go.Proofs.YthpkohijooimbaaGreatDoor.consoleSays
open Go Go.Sw Go.Mo Go.Cn Go.Pl Go.ChangeShapes Go.WideShapes Go.ChangeAt Go.RowKit
section
set_option maxRecDepth 100000
theorem rd9:RdV Tryz.prog 9 Fu.str:=RdV.str Tryz.underlying9
theorem aA3(os:Os)(started:os.Started)(H:Type)(enc:aAg×aA4->H):ReturnsInHanded {} Tryz.checked os 3 .any (λw args=>(Rows.consoleSaysSpec.pre enc Tryz.prog Tryz.f3 Rows.consoleSaysRow.domain false w args/\laidMetH Tryz.prog Rows.consoleSaysRow.laid w)/\sizedMet enc Tryz.prog Tryz.f3 (OpenSpec.ofChange Rows.consoleSaysSpec) false w args) (Rows.consoleSaysSpec.post enc Tryz.prog Tryz.f3 false true false false):=by
 refine returnsInHanded_of_calls own started (by kernel_rfl)
  (ChangeSpec.witness_at (enc:=enc) (C:=Tryz.checked) (os:=os) (X:=λw _=>laidMetH Tryz.prog Rows.consoleSaysRow.laid w) false (uy os) #[.string ByteArray.empty] 8 (World.layVars_os _ _ _) (by kernel_rfl) (by kernel_rfl) (by kernel_rfl) (by kernel_rfl) (by kernel_rfl) (QC os _)) ?_
 intro u A i _ S _ br A6 _;obtain⟨_,_,_,af,ai,_,_,_,_,aj⟩:=br;obtain rfl:af=Tryz.f3:=X6 (ai.symm.trans Tryz.func3);obtain⟨⟨⟨I,gs,before,K,_⟩,ab⟩,hz⟩:=A6;have Y4:=hz.weights K;have M:DataW.Whole enc Tryz.prog Tryz.f3.params.toList Rows.consoleSaysSpec.vars false (u.forCall A i) i.args.toList I gs before:=DataW.Whole.of_heap (w':=u.forCall A i) (by rfl) K;have N:laidMetH Tryz.prog Rows.consoleSaysRow.laid (u.forCall A i):=ab.of_heap (by rfl)
 suffices key:Calls Tryz.prog 3 i.args (u.forCall A i) λe F=>∃v,e= .returned v/\Rows.consoleSaysSpec.post enc Tryz.prog Tryz.f3 false true false false (u.forCall A i) i.args v F from
  key.mono λe F ⟨v,G,B⟩=>by subst G;exact ChangeSpec.post_blind B
 clear ab hz K;generalize u.forCall A i=W at*;generalize i.args=args at*;have O:∀(j:Nat) t v,Tryz.f3.params[j]? =some t->args[j]? =some v->Value.okWide Tryz.prog W .any u.heap.size t v:=aj;have ac:=M;obtain⟨p,q,ak,hV,rfl,ao,ap⟩:=M;have P:DataW.TrodAll enc Tryz.prog W 0 (λ_=>true) true Tryz.f3.params.toList args.toList I p:=ak;have Q:(DataW.weightsEach Tryz.prog (Tryz.f3.params.toList++Rows.consoleSaysSpec.plain.varTypes Tryz.prog) (I++gs)).all (·<=reachBytes)=true:=Y4;rw[Tryz.params3] at P O Q;obtain⟨D,aq,d0,au,p0,q0,av,rfl,rfl,h0,r0⟩:=trodAll_cons P;obtain⟨rfl,rfl,rfl⟩:=trodAll_nil r0;obtain rfl:args= #[D]:=by cases args;simp_all
 obtain⟨rfl,rfl⟩:=trodVars_none hV;have R:=h0;have ad:∀x∈p0,x.block<W.heap.size:=by obtain⟨m,L⟩:=R;exact DataW.trod_lt m _ _ _ L
 obtain⟨x0,u0⟩:=rd9 H enc W W D d0 p0 (O 0 9 D rfl rfl) h0 (λn hn=>by simpa using nE.1 Q n (DataW.weights_mem_each (j:=0) (t:=9) rfl rfl n hn));obtain⟨T,fr,hb⟩:=II N;have hg:W.cell? ⟨6,0,none⟩=some GV:=by simp[World.cell?,hb]
 obtain⟨T1,al,B⟩:=pow N;obtain⟨m,L⟩:=mx S;obtain⟨c1,h1⟩:=aA2 S (g:=1) (z:=Array.replicate 20 (.int .u64 0)) (t:=218) (by decide) (by kernel_rfl);have ae:al=(0,0):=by rw[h1] at B;cases B;rfl
 subst ae;have qo:6<W.heap.size:=(aDl.1 hb).1;let go:=W.heap.toList.take 7
 have an:go.length=7:=by simp only[go,Z1,rk];omega
 have E:∀k,k<7->go[k]? =W.heap[k]? :=λk U=>by simp only[go,List.getElem?_take_of_lt U,aH0]
 haveI:GO go:=⟨⟨_,(E 1 (by omega)).trans B⟩,⟨m,3,(0,0),(E 0 (by omega)).trans L⟩⟩
 have hv:aG (λ_=>gLV go.length) (λk=>k<go.length) W [.v Fu.str x0] [D]:=by
  simp only[aG];exact⟨D,_,rfl,(by simp only[Slot.ok];exact tD.2 (tD.1 u0)),rfl⟩
 refine(((Y9 (gobj:=go)).E0 (λ_=>0) (Go.bn.nr x0 (tD.1 u0).2.1)).bJo hg (by omega) (λk U=>⟨W.heap[k]'(by omega),aD8 _,(E k (by omega)).trans (aD8 _)⟩) hv).mono λe F ⟨G,V⟩=>?_;subst G;exact⟨_,rfl,_,_,_,[],_,[],ac,trodAll_mk1 (shut_bool Tryz.underlying4 _),(trodAll_cons_mk (Below.trod DZ (by kernel_rfl) (aHw (by kernel_rfl)) R V ad) trodAll_mk0),rfl,V.frame _,λh=>by cases h⟩
theorem said:Rows.ConsoleSaysSaid:=OpenClaim.holds_of_wide 3 Tryz.f3 rfl rfl rfl rfl rfl rfl rfl ⟨rfl,rfl,rfl,rfl,rfl⟩ rfl rfl rfl rfl rfl aN7 Tryz.func3 jf ji jw (λu A H enc _=>aA3 u A H enc)
theorem proved:Rows.ConsoleSaysCardSaid:=
 Claim7.holds_tied_plain_at .later [] [.data,.data,.data,.data,.handle,.sentinel,.sentinel,.pinned] true (true,"0ccb334c8fddcd734c2b37f1f7dd49e88d36044360695993e2f8a5bda6c9d6e1") true
  said (λ_ h=>by cases h) (by kernel_rfl) (λ_ h=>by cases h) consoleSays_row_tie rfl ⟨rfl,rfl⟩ (by kernel_rfl) rfl
  (λf fn B C=>by
   obtain rfl:f=3:=X6 (aN7.symm.trans B) |>.symm;obtain rfl:fn=Tryz.f3:=(X6 (Tryz.func3.symm.trans C)).symm
   exact⟨by kernel_rfl,λj t u=>by
    rw[Tryz.params3] at u;have u:t∈ [9]:=by
     obtain⟨D,e⟩:=aDl.1 u;rw[<-e];exact Array.getElem_mem_toList D
    have A:∀t∈ [9],Tryz.prog.wantsStandIn t=false:=by
     intro t h;simp only[sK,aEq,aHl] at h;subst h;kernel_rfl
    exact A t u⟩)
  (by kernel_rfl)
#print axioms proved
end
end Go.Proofs.YthpkohijooimbaaGreatDoor.consoleSays
