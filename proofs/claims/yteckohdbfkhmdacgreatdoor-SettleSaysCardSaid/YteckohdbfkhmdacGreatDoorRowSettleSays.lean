/- SettleSays: for every input the law answers true, and its arguments read as they did; the card, by its given tie. Conditions: none. -/
import Derived.Test.YteckohdbfkhmdacGreatDoorMFSettleSays
import Derived.Test.YteckohdbfkhmdacGreatDoorRows
import Derived.Test.YteckohdbfkhmdacGreatDoorCards
import Derived.Test.YteckohdbfkhmdacGreatDoorTie
import Derived.WalkKit
import Derived.ProofKit
import Derived.OpenShut
import Derived.ShutString
import Derived.ChangeOld
import Derived.Below
import Derived.Test.YteckohdbfkhmdacGreatDoorChecked
import Derived.LaidLaws
import Derived.LaidHandle
import Derived.Handed
import Derived.ChangeSame
import Derived.ChangeVars
import Derived.SevenTiedAt
import Derived.Conc.Holds
import Derived.Leaving
set_option linter.unusedVariables false
set_option linter.unusedSimpArgs false
namespace Go.Proofs.YteckohdbfkhmdacGreatDoor.settleSays
open Go Go.Sw Go.Mo Go.Cn Go.Pl Go.ChangeShapes Go.WideShapes Go.ChangeAt Go.RowKit
set_option linter.unusedVariables false
set_option maxRecDepth 100000
theorem own:ownKnob Tryz.prog.godebug=none:=by kernel_rfl
theorem To:laidOutB Tryz.prog=true:=by kernel_rfl
theorem et:Tryz.prog.globalNamed "errors.errorType"=some 0:=by kernel_rfl
theorem rt:(Tryz.prog.cutTypes.find? (·.1== "internal/reflectlite.rtype")).map (·.2)=some 281:=by kernel_rfl
theorem RH:((List.range Tryz.prog.types.size).filter fun t=>Tryz.prog.rowNamed t [101,114,114,111,114])=[35]:=by kernel_rfl
theorem FO{W:World}(h:laidMetH Tryz.prog Rows.settleSaysRow.laid W):∃T fr,W.heap[0]? =some (.cells #[GV] T fr):=by
 have B:laidMet Tryz.prog [] W/\handlesMet Tryz.prog Rows.settleSaysRow.laid W:=h;obtain⟨F,u,G,H,I,K,L,z⟩:=B.2 _ (aCd.2 rfl);have C:F=[101,114,114,111,114]:=(pT H).symm;subst C;obtain rfl:=pT (rt.symm.trans I);have A:G∈(List.range Tryz.prog.types.size).filter fun t=>Tryz.prog.rowNamed t [101,114,114,111,114]:=zg.2 ⟨kz.2 K,L⟩;rw[RH] at A;obtain rfl:=aCd.1 A;have D:typeHandle Tryz.prog 35= .pointer (some ⟨9,35,none⟩):=by kernel_rfl
 rw[D] at z;simp only[World.var?,et,cM] at z;split at z
 ·rename_i M T fr E;obtain rfl:=pT z;exact⟨T,fr,E⟩
 ·cases z
theorem LC{α:Type}{e:Wr α}[YM e]{xs:List α}{W:World}{v:Value}{T:TypeId}{fr:Nat×Nat}(hb:W.heap[0]? =some (.cells #[GV] T fr))(hd:∀x S w ds,e.ok x S w ds->∃k n r,ds= .int k n::r)
  (h:(Wr.sl e).val xs (fun _=>False) W v):(Wr.sl e).val xs (fun k=>k=0) W v:=by
 obtain⟨F,⟨a,G,H,I,z⟩,K⟩:=h;refine⟨F,⟨a,G,H,I,?_⟩,K⟩;rcases z with z |⟨b,A,ds,Q,R,U,C,D⟩
 ·exact .inl z
 cases xs with
 |nil=>exact .inl rfl
 |cons x xs=>
  refine .inr ⟨b,A,ds,Q,R,fun E=>?_,C,YM.YY D⟩;subst E;obtain⟨c,d,L,M,_⟩:=D;obtain⟨k,n,r,N⟩:=hd _ _ _ _ M;subst N;subst L;obtain⟨cells,O,fr2,B,P⟩:=C;rw[hb] at B;obtain⟨rfl,_,_⟩: #[GV]=cells/\T=O/\fr=fr2:=by simpa using B
  have u:=P 0 (by simp);simp only[aDh,cz,List.getElem_cons_zero] at u;rcases A with _ | A
  ·simp[GV] at u
  ·simp at u
theorem VD:zt Tryz.prog 3 (Wr.int .i64):=(zt.int Tryz.underlying3)
theorem UN:zt Tryz.prog 25 (Wr.sl (Wr.pr (Wr.int .i64) (Wr.pr (Wr.int .i64) (Wr.pr (Wr.int .i64) aM)))):=(zt.sl (E:=44) Tryz.underlying25 (by kernel_rfl) rfl (by kernel_rfl) (az.struct Tryz.underlying44 (by kernel_rfl) (bu.cons rfl (by kernel_rfl) (az.int Tryz.underlying3) (bu.cons rfl (by kernel_rfl) (az.int Tryz.underlying3) (bu.cons rfl (by kernel_rfl) (az.int Tryz.underlying3) (bu.last rfl (by kernel_rfl) (az.arr (E:=5) Tryz.underlying30 (by kernel_rfl) (by kernel_rfl) (az.int Tryz.underlying5))))))))
noncomputable def ch (os:Os):World:=
 let h:=World.holding Tryz.prog os ⟨#[],#[],[]⟩
 { h with heap:=h.heap.modify 0 fun
   | .cells _ t u=> .cells #[GV] t u
   |o=>o }
theorem LD(os:Os)(args:Array Value):laidMetH Tryz.prog Rows.settleSaysRow.laid ((ch os).forCall (fun _ _=>0) ⟨#[],args,[]⟩).memory:=
 laidMetH_of_parts (laidMet_nil _ _) (by kernel_rfl)
theorem RI(os:Os)(started:os.Started)(H:Type)(enc:TypeId×Value->H):
  ReturnsInHanded {} Tryz.checked os 4 .any (fun w args=>(Rows.settleSaysSpec.pre enc Tryz.prog Tryz.f4 Rows.settleSaysRow.domain false w args/\laidMetH Tryz.prog Rows.settleSaysRow.laid w)/\sizedMet enc Tryz.prog Tryz.f4 (OpenSpec.ofChange Rows.settleSaysSpec) false w args) (Rows.settleSaysSpec.post enc Tryz.prog Tryz.f4 false true false false):=by
 refine returnsInHanded_of_change_and (C:=Tryz.checked) (X:=fun w _=>laidMetH Tryz.prog Rows.settleSaysRow.laid w) (fun _ _ _ hh h=>h.of_heap hh) own started (by kernel_rfl) Tryz.func4
  (ChangeSpec.witness_at (enc:=enc) (C:=Tryz.checked) (os:=os) (X:=fun w _=>laidMetH Tryz.prog Rows.settleSaysRow.laid w) false (ch os) #[.int .i64 0,.slice none 0 0] 8 rfl (by kernel_rfl) (by kernel_rfl) (by kernel_rfl) (by kernel_rfl) (by kernel_rfl) (LD os _)) ?_
 intro W ad args G gs af Q R _ J4 hL _;have D:∀(j:Nat) t v,Tryz.f4.params[j]? =some t->args[j]? =some v->Value.okWide Tryz.prog W .any ad t v:=Q;have aa:=R;obtain⟨p,q,U,hV,rfl,al,am⟩:=R;have N:DataW.TrodAll enc Tryz.prog W 0 (fun _=>true) true Tryz.f4.params.toList args.toList G p:=U;have E:(DataW.weightsEach Tryz.prog (Tryz.f4.params.toList++Rows.settleSaysSpec.plain.varTypes Tryz.prog) (G++gs)).all (·<=reachBytes)=true:=J4;rw[Tryz.params4] at N D E;obtain⟨u,an,d0,ao,V,q0,ap,rfl,rfl,h0,r0⟩:=trodAll_cons N;obtain⟨z,aq,d1,au,p1,q1,rfl,rfl,rfl,B,r1⟩:=trodAll_cons r0;obtain⟨rfl,rfl,rfl⟩:=trodAll_nil r1;obtain rfl:args= #[u,z]:=by cases args;simp_all
 obtain⟨rfl,rfl⟩:=trodVars_none hV;have O:=h0;have ab:∀x∈V,x.block<W.heap.size:=by obtain⟨m,L⟩:=O;exact DataW.trod_lt m _ _ _ L
 obtain⟨x0,F⟩:=VD H enc W W u d0 V (D 0 3 u rfl rfl) h0 (fun n I=>by simpa using o7.1 E n (DataW.weights_mem_each (j:=0) (t:=3) rfl rfl n I));have P:=B;have ac:∀x∈p1,x.block<W.heap.size:=by obtain⟨m,L⟩:=P;exact DataW.trod_lt m _ _ _ L
 obtain⟨x1,A⟩:=UN H enc W W z d1 p1 (D 1 25 z rfl rfl) B (fun n I=>by simpa using o7.1 E n (DataW.weights_mem_each (j:=1) (t:=25) rfl rfl n I));obtain⟨T,fr,M⟩:=FO hL;have hg:W.cell? ⟨0,0,none⟩=some GV:=by simp[World.cell?,M]
 clear U Q;have hv:aV (fun _=> .of (.pointer (some ⟨0,0,none⟩))) (fun k=>k=0) W [.v (Wr.int .i64) x0,.v (Wr.sl (Wr.pr (Wr.int .i64) (Wr.pr (Wr.int .i64) (Wr.pr (Wr.int .i64) aM)))) x1] [u,z]:=by
  simp only[aV];exact⟨u,_,rfl,(by simp only[Slot.ok];exact(Eb.2 (Eb.1 F))),⟨z,_,rfl,(by simp only[Slot.ok];exact(LC M (fun x S w G h=>by obtain⟨c,d,rfl,B,_⟩:=h;exact⟨_,x.1,d,by rw[B.1];rfl⟩) A)),rfl⟩⟩
 have F:=Ql F;have A:=Ql A;refine((Cu (fun _=>0) (Go.XR.br x0 x1 (fun d hd=>NV (A.sl.2 d hd)))).aUa hg M hv).mono fun e W' ⟨he,K⟩=>?_;subst he;exact⟨_,rfl,_,_,_,[],_,[],aa,trodAll_mk1 (shut_bool Tryz.underlying4 _),(trodAll_cons_mk (Below.trod To (by kernel_rfl) (aEs (by kernel_rfl)) O K ab) (trodAll_cons_mk (Below.trod To (by kernel_rfl) (aEs (by kernel_rfl)) P K ac) trodAll_mk0)),rfl,K.frame _,fun h=>by cases h⟩
theorem Ip{a:Assume}{C:Checked}{os:Os}{f:FuncId}{r:Reach}{Pre:World->Array Value->Prop}{aQ0:World->Array Value->Value->World->Prop}(h:ReturnsInHanded a C os f r Pre aQ0):ReturnsInLeavingWide a C os f r Pre aQ0:=fun enter=>by
 obtain⟨B,D,E,F,G⟩:=h enter;refine⟨B,D,E,F,fun w z i A=>?_⟩;obtain⟨n,v,H,I,K,L,M,⟨j,last,N,O,u⟩,P⟩:=G w z i A;exact⟨n,v,H,I,K,L,M,⟨j,last,N,O,u.2.1,onlyLeaving_of_quiet u.1,u.2.2⟩,P⟩
theorem LF{p:Pinned}{s:OpenSpec}{c:OpenClaim}(kinds:List LaidKind)(rr:Bool)(ym:Bool×String)(lk:Bool)(hc:c.holds p s)(hw:c.wfByText s=true)(aVs:c.laidByTextAt .later p kinds rr)(YF:c.start= .entering)(hnb:c.noBlocks=false/\c.again=false)(hm:p.checked.prog.mainIs=some (ym.1,ym.2.toList))(hn:(!ym.1 && ym.2.isEmpty && !lk)=false)
  (hl:∀f fn,p.checked.prog.funcNamed c.func=some f->p.checked.prog.funcs[f]? =some fn->lk=p.checked.prog.looks []/\∀(j:Nat) t,fn.params[j]? =some t->p.checked.prog.wantsStandIn t=false) (hg:true=c.goesBy p.checked.prog):
  Claim7.holds p (.plain s) { stood:={ row:=c,standIns:=[],harness:=ym,looks:=lk },kinds:=[],alts:=[],goes:=true,laidByText:=true,laidKinds:=kinds,laidTests:=rr,laidLooks:= .later }:=by
 have u:∀r:OpenClaim,Claim7.isSixth { stood:={ row:=r,standIns:=[],harness:=ym,looks:=lk },kinds:=[] }=false:=fun r=>by simpa[Claim7.isSixth] using hn
 exact⟨Claim7.tied_new_at .later kinds rr (Claim7.new_of_sixth hc ym lk YF hnb hm (u c) hl) hw,(fun D z=>by cases z),aVs,(fun h=>by cases h),hg⟩
theorem um:Tryz.prog.funcNamed "stillwater/stillwaterlaw.SettleSays"=some 4:=by kernel_rfl
theorem j3:mapsRowed Tryz.prog=true:=by kernel_rfl
theorem VE:(Rows.settleSaysRow.inPlace==Tryz.prog.inPlace 4)=true:=by kernel_rfl
theorem VF:(Rows.settleSaysRow.unfollowed==Tryz.prog.unfollowed 4)=true:=by kernel_rfl
theorem VG:(Rows.settleSaysRow.recurses==Tryz.prog.recurses 4)=true:=by kernel_rfl
theorem VH:(Rows.settleSaysRow.named==Tryz.prog.varsNamed 4)=true:=by kernel_rfl
theorem TI{a b:Bool}(h:a=true)(k:b=true):(a && b)=true:=by rw[h,k];rfl
theorem jf:joinedFacts Tryz.prog 4 Tryz.f4 Rows.settleSaysSpec Rows.settleSaysRow=true:=by
 unfold joinedFacts
 repeat' (with_reducible apply TI)
 ·kernel_rfl
 ·exact To
 ·exact j3
 ·kernel_rfl
 ·kernel_rfl
 ·kernel_rfl
 ·kernel_rfl
 ·kernel_rfl
 ·kernel_rfl
 ·exact VE
 ·exact VF
 ·exact VG
 ·exact VH
 all_goals kernel_rfl
theorem jw:Tryz.f4.isWrapper Tryz.prog Rows.settleSaysRow.wrapper Rows.settleSaysRow.mainSum:=by unfold Func.isWrapper;first | (rw[WV (by decide+kernel)];kernel_rfl) | (rw[WM (by decide+kernel)];exact⟨rfl,rfl⟩)
theorem ji:Tryz.f4.isInstance Tryz.prog Rows.settleSaysRow.origin Rows.settleSaysRow.targs:=aEs (by kernel_rfl)
theorem said:Rows.SettleSaysSaid:=
 OpenClaim.holds_of_wide_leaving 4 Tryz.f4 rfl rfl rfl rfl rfl rfl rfl ⟨rfl,rfl,rfl,rfl,rfl⟩ rfl rfl rfl rfl rfl um Tryz.func4 jf ji jw
  (fun h u H enc _=>Ip (RI h u H enc))
theorem proved:Rows.SettleSaysCardSaid:=
 LF [.handle] true (true,"7e5afd451c2d54b8e1faed30c41fce22538b69a805111dfd7589bf31076f37ff") true
  said (by kernel_rfl) settleSays_row_tie rfl ⟨rfl,rfl⟩ (by kernel_rfl) rfl
  (fun f fn A B=>by
   obtain rfl:f=4:=pT (um.symm.trans A) |>.symm;obtain rfl:fn=Tryz.f4:=(pT (Tryz.func4.symm.trans B)).symm
   exact⟨by kernel_rfl,fun j t u=>by
    rw[Tryz.params4] at u;have u:t∈ [3,25]:=by
     obtain⟨C,e⟩:=zo.1 u;rw[<-e];exact Array.getElem_mem_toList C
    have z:∀t∈ [3,25],Tryz.prog.wantsStandIn t=false:=by
     intro t h;simp only[o6,aCl,aEl] at h;rcases h with rfl | rfl<;>kernel_rfl
    exact z t u⟩)
  (by kernel_rfl)
#print axioms proved
end Go.Proofs.YteckohdbfkhmdacGreatDoor.settleSays
