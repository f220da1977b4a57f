/- SettleMade: for every input the law answers true, and its arguments read as they did. Conditions: none. -/
import Derived.Test.YteckohdbfkhmdacGreatDoorMFSettleMade
import Derived.Test.YteckohdbfkhmdacGreatDoorCards
import Derived.LaidSub
import Derived.LaidOnce
import Derived.ShutString
import Derived.SevenTiedAt
import Derived.Conc.Holds
set_option linter.unusedVariables false
set_option linter.unusedSimpArgs false
namespace Go.Proofs.YteckohdbfkhmdacGreatDoor.settleMade
open Go Go.Sw Go.Mo Go.Cn Go.Pl Go.ChangeShapes Go.WideShapes Go.ChangeAt Go.RowKit
set_option maxRecDepth 100000
abbrev R0:=Rows.settleMadeRow
theorem own:ownKnob Tryz.prog.godebug=none:=by kernel_rfl
theorem Jf:laidOutB Tryz.prog=true:=by kernel_rfl
theorem et:Tryz.prog.globalNamed "errors.errorType"=some 0:=by kernel_rfl
theorem rt:(Tryz.prog.cutTypes.find? (·.1== "internal/reflectlite.rtype")).map (·.2)=some 281:=by kernel_rfl
theorem SN:((List.range Tryz.prog.types.size).filter fun t=>Tryz.prog.rowNamed t [101,114,114,111,114])=[35]:=by kernel_rfl
theorem GS{W:aAa}(h:laidMetH Tryz.prog R0.laid W):∃T fr,W.heap[0]? =some (.cells #[GV] T fr):=by
 have B:laidMet Tryz.prog [] W/\handlesMet Tryz.prog R0.laid W:=h;obtain⟨F,u,G,H,I,K,L,z⟩:=B.2 _ (aB9.2 rfl);have C:F=[101,114,114,111,114]:=(pT H).symm;subst C;obtain rfl:=pT (rt.symm.trans I);have A:G∈(List.range Tryz.prog.types.size).filter fun t=>Tryz.prog.rowNamed t [101,114,114,111,114]:=aCj.2 ⟨ny.2 K,L⟩;rw[SN] at A;obtain rfl:=aB9.1 A;have D:typeHandle Tryz.prog 35= .pointer (some ⟨9,35,none⟩):=by kernel_rfl
 rw[D] at z;simp only[World.var?,et,cM] at z;split at z
 ·rename_i M T fr E;obtain rfl:=pT z;exact⟨T,fr,E⟩
 ·cases z
theorem MH{α:Type}{e:Wr α}[ZU e]{xs:List α}{W:aAa}{v:aAd}{T:aAb}{fr:Nat×Nat}(hb:W.heap[0]? =some (.cells #[GV] T fr))(hd:∀x S w ds,e.ok x S w ds->∃k n r,ds= .int k n::r)
  (h:(Wr.sl e).val xs (fun _=>False) W v):(Wr.sl e).val xs (fun k=>k=0) W v:=by
 obtain⟨F,⟨a,G,H,I,z⟩,K⟩:=h;refine⟨F,⟨a,G,H,I,?_⟩,K⟩;rcases z with z |⟨b,A,ds,Q,R,U,C,D⟩
 ·exact .inl z
 cases xs with
 |nil=>exact .inl rfl
 |cons x xs=>
  refine .inr ⟨b,A,ds,Q,R,fun E=>?_,C,ZU.j7 D⟩;subst E;obtain⟨c,d,L,M,_⟩:=D;obtain⟨k,n,r,N⟩:=hd _ _ _ _ M;subst N;subst L;obtain⟨cells,O,fr2,B,P⟩:=C;rw[hb] at B;obtain⟨rfl,_,_⟩: #[GV]=cells/\T=O/\fr=fr2:=by simpa using B
  have u:=P 0 (by simp);simp only[aDh,fy,List.getElem_cons_zero] at u;rcases A with _ | A
  ·simp[GV] at u
  ·simp at u
theorem VX:RdV Tryz.prog 3 (Wr.int .i64):=(RdV.int Tryz.underlying3)
theorem VY:RdV Tryz.prog 22 (Wr.sl (Wr.int .i64)):=(RdV.sl (E:=3) Tryz.underlying22 (by kernel_rfl) rfl (by kernel_rfl) (yg.int Tryz.underlying3))
noncomputable def fk (os:Os):aAa:=
 let h:=World.holding Tryz.prog os ⟨#[],#[],[]⟩
 { h with heap:=h.heap.modify 0 fun
   | .cells _ t u=> .cells #[GV] t u
   |o=>o }
theorem MI(os:Os)(args:Array aAd):laidMetH Tryz.prog R0.laid ((fk os).forCall (fun _ _=>0) ⟨#[],args,[]⟩).memory:=
 laidMetH_of_parts (laidMet_nil _ _) (by kernel_rfl)
theorem SO(os:Os)(started:os.Started)(H:Type)(enc:aAb×aAd->H):
  ReturnsInHanded {} Tryz.checked os 5 .any (fun w args=>(Rows.settleMadeSpec.pre enc Tryz.prog Tryz.f5 R0.domain false w args/\laidMetH Tryz.prog R0.laid w)/\sizedMet enc Tryz.prog Tryz.f5 (OpenSpec.ofChange Rows.settleMadeSpec) false w args) (Rows.settleMadeSpec.post enc Tryz.prog Tryz.f5 false true false false):=by
 refine returnsInHanded_of_change_and (C:=Tryz.checked) (X:=fun w _=>laidMetH Tryz.prog R0.laid w) (fun _ _ _ hh h=>h.of_heap hh) own started (by kernel_rfl) Tryz.func5
  (ChangeSpec.witness_at (enc:=enc) (C:=Tryz.checked) (os:=os) (X:=fun w _=>laidMetH Tryz.prog R0.laid w) false (fk os) #[.slice none 0 0,.int .i64 0,.int .i64 0,.int .i64 0] 8 rfl (by kernel_rfl) (by kernel_rfl) (by kernel_rfl) (by kernel_rfl) (by kernel_rfl) (MI os _)) ?_
 intro W ai args O gs aj aa hW _ O0 hL _;have A:∀(j:Nat) t v,Tryz.f5.params[j]? =some t->args[j]? =some v->Value.okWide Tryz.prog W .any ai t v:=aa;have ac:=hW;obtain⟨p,q,ab,hV,rfl,am,an⟩:=hW;have Q:DataW.TrodAll enc Tryz.prog W 0 (fun _=>true) true Tryz.f5.params.toList args.toList O p:=ab;have B:(DataW.weightsEach Tryz.prog (Tryz.f5.params.toList++Rows.settleMadeSpec.plain.varTypes Tryz.prog) (O++gs)).all (·<=reachBytes)=true:=O0;rw[Tryz.params5] at Q A B;obtain⟨E,ap,d0,au,p0,q0,av,rfl,rfl,h0,r0⟩:=trodAll_cons Q;obtain⟨F,ay,d1,a0,p1,q1,rfl,rfl,rfl,h1,r1⟩:=trodAll_cons r0;obtain⟨G,a1,d2,a2,p2,q2,rfl,rfl,rfl,h2,r2⟩:=trodAll_cons r1;obtain⟨I,a3,d3,a4,p3,q3,rfl,rfl,rfl,h3,r3⟩:=trodAll_cons r2;obtain⟨rfl,rfl,rfl⟩:=trodAll_nil r3;obtain rfl:args= #[E,F,G,I]:=by cases args;simp_all
 obtain⟨rfl,rfl⟩:=trodVars_none hV;have R:=h0;have ad:∀x∈p0,x.block<W.heap.size:=by obtain⟨m,z⟩:=R;exact DataW.trod_lt m _ _ _ z
 obtain⟨x0,K⟩:=VY H enc W W E d0 p0 (A 0 22 E rfl rfl) h0 (fun n u=>by simpa using y8.1 B n (DataW.weights_mem_each (j:=0) (t:=22) rfl rfl n u));have U:=h1;have ae:∀x∈p1,x.block<W.heap.size:=by obtain⟨m,z⟩:=U;exact DataW.trod_lt m _ _ _ z
 obtain⟨x1,L⟩:=VX H enc W W F d1 p1 (A 1 3 F rfl rfl) h1 (fun n u=>by simpa using y8.1 B n (DataW.weights_mem_each (j:=1) (t:=3) rfl rfl n u));have V:=h2;have af:∀x∈p2,x.block<W.heap.size:=by obtain⟨m,z⟩:=V;exact DataW.trod_lt m _ _ _ z
 obtain⟨x2,M⟩:=VX H enc W W G d2 p2 (A 2 3 G rfl rfl) h2 (fun n u=>by simpa using y8.1 B n (DataW.weights_mem_each (j:=2) (t:=3) rfl rfl n u));have k3:=h3;have ah:∀x∈p3,x.block<W.heap.size:=by obtain⟨m,z⟩:=k3;exact DataW.trod_lt m _ _ _ z
 obtain⟨x3,N⟩:=VX H enc W W I d3 p3 (A 3 3 I rfl rfl) h3 (fun n u=>by simpa using y8.1 B n (DataW.weights_mem_each (j:=3) (t:=3) rfl rfl n u));obtain⟨T,fr,P⟩:=GS hL;have hg:W.cell? ⟨0,0,none⟩=some GV:=by simp[World.cell?,P]
 clear ab aa;have hv:aX (fun _=> .of (.pointer (some ⟨0,0,none⟩))) (fun k=>k=0) W [.v (Wr.sl (Wr.int .i64)) x0,.v (Wr.int .i64) x1,.v (Wr.int .i64) x2,.v (Wr.int .i64) x3] [E,F,G,I]:=by
  simp only[aX];exact⟨E,_,rfl,(by simp only[Slot.ok];exact(MH P (fun x S w O h=>⟨_,x,[],h.1⟩) K)),⟨F,_,rfl,(by simp only[Slot.ok];exact(vW.2 (vW.1 L))),⟨G,_,rfl,(by simp only[Slot.ok];exact(vW.2 (vW.1 M))),⟨I,_,rfl,(by simp only[Slot.ok];exact(vW.2 (vW.1 N))),rfl⟩⟩⟩⟩
 have K:=Ff K;have L:=Ff L;have M:=Ff M;have N:=Ff N;refine((De (fun _=>0) (Go.YO.fc (fun x hx=>Tf (K.sl.2 x hx)) (Tf L) (Tf M) (Tf N))).aXl hg P hv).mono fun e W' ⟨he,D⟩=>?_;subst he;exact⟨_,rfl,_,_,_,[],_,[],ac,trodAll_mk1 (shut_bool Tryz.underlying4 _),(trodAll_cons_mk (Below.trod Jf (by kernel_rfl) (aDm (by kernel_rfl)) R D ad) (trodAll_cons_mk (Below.trod Jf (by kernel_rfl) (aDm (by kernel_rfl)) U D ae) (trodAll_cons_mk (Below.trod Jf (by kernel_rfl) (aDm (by kernel_rfl)) V D af) (trodAll_cons_mk (Below.trod Jf (by kernel_rfl) (aDm (by kernel_rfl)) k3 D ah) trodAll_mk0)))),rfl,D.frame _,fun h=>by cases h⟩
theorem Jg{a:Assume}{C:Checked}{os:Os}{f:aAf}{r:Reach}{Pre:aAa->Array aAd->Prop}{aT7:aAa->Array aAd->aAd->aAa->Prop}(h:ReturnsInHanded a C os f r Pre aT7):ReturnsInLeavingWide a C os f r Pre aT7:=fun enter=>by
 obtain⟨B,D,E,F,G⟩:=h enter;refine⟨B,D,E,F,fun w z i A=>?_⟩;obtain⟨n,v,H,I,K,L,M,⟨j,last,N,O,u⟩,P⟩:=G w z i A;exact⟨n,v,H,I,K,L,M,⟨j,last,N,O,u.2.1,onlyLeaving_of_quiet u.1,u.2.2⟩,P⟩
theorem MJ{p:Pinned}{s:OpenSpec}{c:OpenClaim}(kinds:List LaidKind)(uk:Bool)(har:Bool×String)(lk:Bool)(hc:c.holds p s)(hw:c.wfByText s=true)(aY2:c.laidByTextAt .later p kinds uk)(ZM:c.start= .entering)(hnb:c.noBlocks=false/\c.again=false)(hm:p.checked.prog.mainIs=some (har.1,har.2.toList))(hn:(!har.1 && har.2.isEmpty && !lk)=false)
  (hl:∀f fn,p.checked.prog.funcNamed c.func=some f->p.checked.prog.funcs[f]? =some fn->lk=p.checked.prog.looks []/\∀(j:Nat) t,fn.params[j]? =some t->p.checked.prog.wantsStandIn t=false) (hg:true=c.goesBy p.checked.prog):
  Claim7.holds p (.plain s) { stood:={ row:=c,standIns:=[],harness:=har,looks:=lk },kinds:=[],alts:=[],goes:=true,laidByText:=true,laidKinds:=kinds,laidTests:=uk,laidLooks:= .later }:=by
 have u:∀r:OpenClaim,Claim7.isSixth { stood:={ row:=r,standIns:=[],harness:=har,looks:=lk },kinds:=[] }=false:=fun r=>by simpa[Claim7.isSixth] using hn
 exact⟨Claim7.tied_new_at .later kinds uk (Claim7.new_of_sixth hc har lk ZM hnb hm (u c) hl) hw,(fun D z=>by cases z),aY2,(fun h=>by cases h),hg⟩
theorem xd:Tryz.prog.funcNamed "stillwater/stillwaterlaw.SettleMade"=some 5:=by kernel_rfl
theorem j3:mapsRowed Tryz.prog=true:=by kernel_rfl
theorem WN:(R0.inPlace==Tryz.prog.inPlace 5)=true:=by kernel_rfl
theorem WO:(R0.unfollowed==Tryz.prog.unfollowed 5)=true:=by kernel_rfl
theorem WQ:(R0.recurses==Tryz.prog.recurses 5)=true:=by kernel_rfl
theorem WR:(R0.named==Tryz.prog.varsNamed 5)=true:=by kernel_rfl
theorem UP{a b:Bool}(h:a=true)(k:b=true):(a && b)=true:=by rw[h,k];rfl
theorem jf:joinedFacts Tryz.prog 5 Tryz.f5 Rows.settleMadeSpec R0=true:=by
 unfold joinedFacts
 repeat' (with_reducible apply UP)
 ·kernel_rfl
 ·exact Jf
 ·exact j3
 iterate 6 kernel_rfl
 ·exact WN
 ·exact WO
 ·exact WQ
 ·exact WR
 all_goals kernel_rfl
theorem jw:Tryz.f5.isWrapper Tryz.prog R0.wrapper R0.mainSum:=by unfold Func.isWrapper;first | (rw[YC (by decide+kernel)];kernel_rfl) | (rw[XV (by decide+kernel)];exact⟨rfl,rfl⟩)
theorem ji:Tryz.f5.isInstance Tryz.prog R0.origin R0.targs:=aDm (by kernel_rfl)
theorem said:Rows.SettleMadeSaid:=
 OpenClaim.holds_of_wide_leaving 5 Tryz.f5 rfl rfl rfl rfl rfl rfl rfl ⟨rfl,rfl,rfl,rfl,rfl⟩ rfl rfl rfl rfl rfl xd Tryz.func5 jf ji jw
  (fun h u H enc _=>Jg (SO h u H enc))
theorem PQ:Tryz.prog.laidByTextLater [("errors.errorType",Rows.laid_errors_errorType)] [.handle] true:=Program.laidByTextLater_by_one 79 8 65 (by kernel_rfl) (by kernel_rfl) (by kernel_rfl) (by kernel_rfl) (by kernel_rfl) (by kernel_rfl) (fun _ _=>by kernel_rfl)
theorem UQ:Tryz.pinned.checked.prog.headLifts.contains "ownunsafe"=false:=by kernel_rfl
theorem Hl:R0.laidByTextAt .later Tryz.pinned [.handle] true:=OpenClaim.laidByTextAt_later rfl rfl PQ UQ
theorem proved:Rows.SettleMadeCardSaid:=
 MJ [.handle] true (true,"7e5afd451c2d54b8e1faed30c41fce22538b69a805111dfd7589bf31076f37ff") true
  said (by kernel_rfl) Hl rfl ⟨rfl,rfl⟩ (by kernel_rfl) rfl
  (fun f fn A B=>by
   obtain rfl:f=5:=pT (xd.symm.trans A) |>.symm;obtain rfl:fn=Tryz.f5:=(pT (Tryz.func5.symm.trans B)).symm
   exact⟨by kernel_rfl,fun j t u=>by
    rw[Tryz.params5] at u;have u:t∈ [22,3,3,3]:=by
     obtain⟨C,e⟩:=aBn.1 u;rw[<-e];exact Array.getElem_mem_toList C
    have z:∀t∈ [22,3,3,3],Tryz.prog.wantsStandIn t=false:=by
     intro t h;simp only[B1,aCm,aEl] at h;rcases h with rfl | rfl | rfl | rfl<;>kernel_rfl
    exact z t u⟩)
  (by kernel_rfl)
#print axioms proved
end Go.Proofs.YteckohdbfkhmdacGreatDoor.settleMade
