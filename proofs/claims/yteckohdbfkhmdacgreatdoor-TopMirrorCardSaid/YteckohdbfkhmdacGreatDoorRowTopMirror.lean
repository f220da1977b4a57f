/- TopMirror: for every input the law answers true, and its arguments read as they did; the card, by its given tie. Conditions: none. -/
import Derived.Test.YteckohdbfkhmdacGreatDoorMFTopMirror
import Derived.Test.YteckohdbfkhmdacGreatDoorRows
import Derived.Test.YteckohdbfkhmdacGreatDoorCards
import Derived.Test.YteckohdbfkhmdacGreatDoorTie
import Derived.WalkKit
import Derived.ProofKit
import Derived.OpenShut
import Derived.ShutString
import Derived.ChangeOld
import Derived.Below
import Derived.Test.YteckohdbfkhmdacGreatDoorChecked
import Derived.LaidLaws
import Derived.LaidHandle
import Derived.Handed
import Derived.ChangeSame
import Derived.ChangeVars
import Derived.SevenTiedAt
import Derived.Conc.Holds
import Derived.Leaving
set_option linter.unusedVariables false
set_option linter.unusedSimpArgs false
namespace Go.Proofs.YteckohdbfkhmdacGreatDoor.topMirror
open Go Go.Sw Go.Mo Go.Cn Go.Pl Go.ChangeShapes Go.WideShapes Go.ChangeAt Go.RowKit
set_option linter.unusedVariables false
set_option maxRecDepth 100000
theorem own:ownKnob Tryz.prog.godebug=none:=by kernel_rfl
theorem Ip:laidOutB Tryz.prog=true:=by kernel_rfl
theorem et:Tryz.prog.globalNamed "errors.errorType"=some 0:=by kernel_rfl
theorem rt:(Tryz.prog.cutTypes.find? (·.1== "internal/reflectlite.rtype")).map (·.2)=some 281:=by kernel_rfl
theorem QX:((List.range Tryz.prog.types.size).filter fun t=>Tryz.prog.rowNamed t [101,114,114,111,114])=[35]:=by kernel_rfl
theorem EU{W:World}(h:laidMetH Tryz.prog Rows.topMirrorRow.laid W):∃T fr,W.heap[0]? =some (.cells #[GV] T fr):=by
 have B:laidMet Tryz.prog [] W/\handlesMet Tryz.prog Rows.topMirrorRow.laid W:=h;obtain⟨F,u,G,H,I,K,L,z⟩:=B.2 _ (zf.2 rfl);have C:F=[101,114,114,111,114]:=(pT H).symm;subst C;obtain rfl:=pT (rt.symm.trans I);have A:G∈(List.range Tryz.prog.types.size).filter fun t=>Tryz.prog.rowNamed t [101,114,114,111,114]:=yw.2 ⟨jv.2 K,L⟩;rw[QX] at A;obtain rfl:=zf.1 A;have D:typeHandle Tryz.prog 35= .pointer (some ⟨9,35,none⟩):=by kernel_rfl
 rw[D] at z;simp only[World.var?,et,cM] at z;split at z
 ·rename_i M T fr E;obtain rfl:=pT z;exact⟨T,fr,E⟩
 ·cases z
theorem KK{α:Type}{e:Wr α}[YI e]{xs:List α}{W:World}{v:Value}{T:TypeId}{fr:Nat×Nat}(hb:W.heap[0]? =some (.cells #[GV] T fr))(hd:∀x S w ds,e.ok x S w ds->∃k n r,ds= .int k n::r)
  (h:(Wr.sl e).val xs (fun _=>False) W v):(Wr.sl e).val xs (fun k=>k=0) W v:=by
 obtain⟨F,⟨a,G,H,I,z⟩,K⟩:=h;refine⟨F,⟨a,G,H,I,?_⟩,K⟩;rcases z with z |⟨b,A,ds,Q,R,U,C,D⟩
 ·exact .inl z
 cases xs with
 |nil=>exact .inl rfl
 |cons x xs=>
  refine .inr ⟨b,A,ds,Q,R,fun E=>?_,C,YI.YU D⟩;subst E;obtain⟨c,d,L,M,_⟩:=D;obtain⟨k,n,r,N⟩:=hd _ _ _ _ M;subst N;subst L;obtain⟨cells,O,fr2,B,P⟩:=C;rw[hb] at B;obtain⟨rfl,_,_⟩: #[GV]=cells/\T=O/\fr=fr2:=by simpa using B
  have u:=P 0 (by simp);simp only[aDg,ek,List.getElem_cons_zero] at u;rcases A with _ | A
  ·simp[GV] at u
  ·simp at u
theorem UE:zj Tryz.prog 3 (Wr.int .i64):=(zj.int Tryz.underlying3)
theorem UF:zj Tryz.prog 22 (Wr.sl (Wr.int .i64)):=(zj.sl (E:=3) Tryz.underlying22 (by kernel_rfl) rfl (by kernel_rfl) (vi.int Tryz.underlying3))
noncomputable def aw (os:Os):World:=
 let h:=World.holding Tryz.prog os ⟨#[],#[],[]⟩
 { h with heap:=h.heap.modify 0 fun
   | .cells _ t u=> .cells #[GV] t u
   |o=>o }
theorem KL(os:Os)(args:Array Value):laidMetH Tryz.prog Rows.topMirrorRow.laid ((aw os).forCall (fun _ _=>0) ⟨#[],args,[]⟩).memory:=
 laidMetH_of_parts (laidMet_nil _ _) (by kernel_rfl)
theorem QY(os:Os)(started:os.Started)(H:Type)(enc:TypeId×Value->H):
  ReturnsInHanded {} Tryz.checked os 8 .any (fun w args=>(Rows.topMirrorSpec.pre enc Tryz.prog Tryz.f8 Rows.topMirrorRow.domain false w args/\laidMetH Tryz.prog Rows.topMirrorRow.laid w)/\sizedMet enc Tryz.prog Tryz.f8 (OpenSpec.ofChange Rows.topMirrorSpec) false w args) (Rows.topMirrorSpec.post enc Tryz.prog Tryz.f8 false true false false):=by
 refine returnsInHanded_of_change_and (C:=Tryz.checked) (X:=fun w _=>laidMetH Tryz.prog Rows.topMirrorRow.laid w) (fun _ _ _ hh h=>h.of_heap hh) own started (by kernel_rfl) Tryz.func8
  (ChangeSpec.witness_at (enc:=enc) (C:=Tryz.checked) (os:=os) (X:=fun w _=>laidMetH Tryz.prog Rows.topMirrorRow.laid w) false (aw os) #[.slice none 0 0,.int .i64 0,.int .i64 0,.int .i64 0] 8 rfl (by kernel_rfl) (by kernel_rfl) (by kernel_rfl) (by kernel_rfl) (by kernel_rfl) (KL os _)) ?_
 intro W ai args O gs aj aa hW _ H4 hL _;have A:∀(j:Nat) t v,Tryz.f8.params[j]? =some t->args[j]? =some v->Value.okWide Tryz.prog W .any ai t v:=aa;have ac:=hW;obtain⟨p,q,ab,hV,rfl,am,an⟩:=hW;have Q:DataW.TrodAll enc Tryz.prog W 0 (fun _=>true) true Tryz.f8.params.toList args.toList O p:=ab;have B:(DataW.weightsEach Tryz.prog (Tryz.f8.params.toList++Rows.topMirrorSpec.plain.varTypes Tryz.prog) (O++gs)).all (·<=reachBytes)=true:=H4;rw[Tryz.params8] at Q A B;obtain⟨E,ap,d0,aq,p0,q0,au,rfl,rfl,h0,r0⟩:=trodAll_cons Q;obtain⟨F,av,d1,ax,p1,q1,rfl,rfl,rfl,h1,r1⟩:=trodAll_cons r0;obtain⟨G,ay,d2,az,p2,q2,rfl,rfl,rfl,h2,r2⟩:=trodAll_cons r1;obtain⟨I,a0,d3,a1,p3,q3,rfl,rfl,rfl,h3,r3⟩:=trodAll_cons r2;obtain⟨rfl,rfl,rfl⟩:=trodAll_nil r3;obtain rfl:args= #[E,F,G,I]:=by cases args;simp_all
 obtain⟨rfl,rfl⟩:=trodVars_none hV;have R:=h0;have ad:∀x∈p0,x.block<W.heap.size:=by obtain⟨m,z⟩:=R;exact DataW.trod_lt m _ _ _ z
 obtain⟨x0,K⟩:=UF H enc W W E d0 p0 (A 0 22 E rfl rfl) h0 (fun n u=>by simpa using j4.1 B n (DataW.weights_mem_each (j:=0) (t:=22) rfl rfl n u));have U:=h1;have ae:∀x∈p1,x.block<W.heap.size:=by obtain⟨m,z⟩:=U;exact DataW.trod_lt m _ _ _ z
 obtain⟨x1,L⟩:=UE H enc W W F d1 p1 (A 1 3 F rfl rfl) h1 (fun n u=>by simpa using j4.1 B n (DataW.weights_mem_each (j:=1) (t:=3) rfl rfl n u));have V:=h2;have af:∀x∈p2,x.block<W.heap.size:=by obtain⟨m,z⟩:=V;exact DataW.trod_lt m _ _ _ z
 obtain⟨x2,M⟩:=UE H enc W W G d2 p2 (A 2 3 G rfl rfl) h2 (fun n u=>by simpa using j4.1 B n (DataW.weights_mem_each (j:=2) (t:=3) rfl rfl n u));have k3:=h3;have ah:∀x∈p3,x.block<W.heap.size:=by obtain⟨m,z⟩:=k3;exact DataW.trod_lt m _ _ _ z
 obtain⟨x3,N⟩:=UE H enc W W I d3 p3 (A 3 3 I rfl rfl) h3 (fun n u=>by simpa using j4.1 B n (DataW.weights_mem_each (j:=3) (t:=3) rfl rfl n u));obtain⟨T,fr,P⟩:=EU hL;have hg:W.cell? ⟨0,0,none⟩=some GV:=by simp[World.cell?,P]
 clear ab aa;have hv:aW (fun _=> .of (.pointer (some ⟨0,0,none⟩))) (fun k=>k=0) W [.v (Wr.sl (Wr.int .i64)) x0,.v (Wr.int .i64) x1,.v (Wr.int .i64) x2,.v (Wr.int .i64) x3] [E,F,G,I]:=by
  simp only[aW];exact⟨E,_,rfl,(by simp only[Slot.ok];exact(KK P (fun x S w O h=>⟨_,x,[],h.1⟩) K)),⟨F,_,rfl,(by simp only[Slot.ok];exact(vL.2 (vL.1 L))),⟨G,_,rfl,(by simp only[Slot.ok];exact(vL.2 (vL.1 M))),⟨I,_,rfl,(by simp only[Slot.ok];exact(vL.2 (vL.1 N))),rfl⟩⟩⟩⟩
 have K:=Em K;have L:=Em L;have M:=Em M;have N:=Em N;refine((Dy (fun _=>0) (Go.WU.dh (fun x hx=>Ry (K.sl.2 x hx)) (Ry L) (Ry M) (Ry N))).aVo hg P hv).mono fun e W' ⟨he,D⟩=>?_;subst he;exact⟨_,rfl,_,_,_,[],_,[],ac,trodAll_mk1 (shut_bool Tryz.underlying4 _),(trodAll_cons_mk (Below.trod Ip (by kernel_rfl) (aDl (by kernel_rfl)) R D ad) (trodAll_cons_mk (Below.trod Ip (by kernel_rfl) (aDl (by kernel_rfl)) U D ae) (trodAll_cons_mk (Below.trod Ip (by kernel_rfl) (aDl (by kernel_rfl)) V D af) (trodAll_cons_mk (Below.trod Ip (by kernel_rfl) (aDl (by kernel_rfl)) k3 D ah) trodAll_mk0)))),rfl,D.frame _,fun h=>by cases h⟩
theorem Iq{a:Assume}{C:Checked}{os:Os}{f:FuncId}{r:Reach}{Pre:World->Array Value->Prop}{aSa:World->Array Value->Value->World->Prop}(h:ReturnsInHanded a C os f r Pre aSa):ReturnsInLeavingWide a C os f r Pre aSa:=fun enter=>by
 obtain⟨B,D,E,F,G⟩:=h enter;refine⟨B,D,E,F,fun w z i A=>?_⟩;obtain⟨n,v,H,I,K,L,M,⟨j,last,N,O,u⟩,P⟩:=G w z i A;exact⟨n,v,H,I,K,L,M,⟨j,last,N,O,u.2.1,onlyLeaving_of_quiet u.1,u.2.2⟩,P⟩
theorem KM{p:Pinned}{s:OpenSpec}{c:OpenClaim}(kinds:List LaidKind)(qk:Bool)(yf:Bool×String)(lk:Bool)(hc:c.holds p s)(hw:c.wfByText s=true)(aW4:c.laidByTextAt .later p kinds qk)(XY:c.start= .entering)(hnb:c.noBlocks=false/\c.again=false)(hm:p.checked.prog.mainIs=some (yf.1,yf.2.toList))(hn:(!yf.1 && yf.2.isEmpty && !lk)=false)
  (hl:∀f fn,p.checked.prog.funcNamed c.func=some f->p.checked.prog.funcs[f]? =some fn->lk=p.checked.prog.looks []/\∀(j:Nat) t,fn.params[j]? =some t->p.checked.prog.wantsStandIn t=false) (hg:true=c.goesBy p.checked.prog):
  Claim7.holds p (.plain s) { stood:={ row:=c,standIns:=[],harness:=yf,looks:=lk },kinds:=[],alts:=[],goes:=true,laidByText:=true,laidKinds:=kinds,laidTests:=qk,laidLooks:= .later }:=by
 have u:∀r:OpenClaim,Claim7.isSixth { stood:={ row:=r,standIns:=[],harness:=yf,looks:=lk },kinds:=[] }=false:=fun r=>by simpa[Claim7.isSixth] using hn
 exact⟨Claim7.tied_new_at .later kinds qk (Claim7.new_of_sixth hc yf lk XY hnb hm (u c) hl) hw,(fun D z=>by cases z),aW4,(fun h=>by cases h),hg⟩
theorem tz:Tryz.prog.funcNamed "stillwater/stillwatertop.TopMirror"=some 8:=by kernel_rfl
theorem j3:mapsRowed Tryz.prog=true:=by kernel_rfl
theorem UU:(Rows.topMirrorRow.inPlace==Tryz.prog.inPlace 8)=true:=by kernel_rfl
theorem UW:(Rows.topMirrorRow.unfollowed==Tryz.prog.unfollowed 8)=true:=by kernel_rfl
theorem UX:(Rows.topMirrorRow.recurses==Tryz.prog.recurses 8)=true:=by kernel_rfl
theorem UY:(Rows.topMirrorRow.named==Tryz.prog.varsNamed 8)=true:=by kernel_rfl
theorem TA{a b:Bool}(h:a=true)(k:b=true):(a && b)=true:=by rw[h,k];rfl
theorem jf:joinedFacts Tryz.prog 8 Tryz.f8 Rows.topMirrorSpec Rows.topMirrorRow=true:=by
 unfold joinedFacts
 repeat' (with_reducible apply TA)
 ·kernel_rfl
 ·exact Ip
 ·exact j3
 ·kernel_rfl
 ·kernel_rfl
 ·kernel_rfl
 ·kernel_rfl
 ·kernel_rfl
 ·kernel_rfl
 ·exact UU
 ·exact UW
 ·exact UX
 ·exact UY
 all_goals kernel_rfl
theorem jw:Tryz.f8.isWrapper Tryz.prog Rows.topMirrorRow.wrapper Rows.topMirrorRow.mainSum:=by unfold Func.isWrapper;first | (rw[WJ (by decide+kernel)];kernel_rfl) | (rw[WA (by decide+kernel)];exact⟨rfl,rfl⟩)
theorem ji:Tryz.f8.isInstance Tryz.prog Rows.topMirrorRow.origin Rows.topMirrorRow.targs:=aDl (by kernel_rfl)
theorem said:Rows.TopMirrorSaid:=
 OpenClaim.holds_of_wide_leaving 8 Tryz.f8 rfl rfl rfl rfl rfl rfl rfl ⟨rfl,rfl,rfl,rfl,rfl⟩ rfl rfl rfl rfl rfl tz Tryz.func8 jf ji jw
  (fun h u H enc _=>Iq (QY h u H enc))
theorem proved:Rows.TopMirrorCardSaid:=
 KM [.handle] true (true,"7e5afd451c2d54b8e1faed30c41fce22538b69a805111dfd7589bf31076f37ff") true
  said (by kernel_rfl) topMirror_row_tie rfl ⟨rfl,rfl⟩ (by kernel_rfl) rfl
  (fun f fn A B=>by
   obtain rfl:f=8:=pT (tz.symm.trans A) |>.symm;obtain rfl:fn=Tryz.f8:=(pT (Tryz.func8.symm.trans B)).symm
   exact⟨by kernel_rfl,fun j t u=>by
    rw[Tryz.params8] at u;have u:t∈ [22,3,3,3]:=by
     obtain⟨C,e⟩:=ze.1 u;rw[<-e];exact Array.getElem_mem_toList C
    have z:∀t∈ [22,3,3,3],Tryz.prog.wantsStandIn t=false:=by
     intro t h;simp only[m5,aCs,aEt] at h;rcases h with rfl | rfl | rfl | rfl<;>kernel_rfl
    exact z t u⟩)
  (by kernel_rfl)
#print axioms proved
end Go.Proofs.YteckohdbfkhmdacGreatDoor.topMirror
