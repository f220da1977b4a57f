/- MirrorSays: for every input the law answers true, and its arguments read as they did; the card, by its given tie. Conditions: none. -/
import Derived.Test.YteckohdbfkhmdabGreatDoorMFMirrorSays
import Derived.Test.YteckohdbfkhmdabGreatDoorRows
import Derived.Test.YteckohdbfkhmdabGreatDoorCards
import Derived.Test.YteckohdbfkhmdabGreatDoorTie
import Derived.WalkKit
import Derived.ProofKit
import Derived.OpenShut
import Derived.ShutString
import Derived.ChangeOld
import Derived.Below
import Derived.Test.YteckohdbfkhmdabGreatDoorChecked
import Derived.LaidLaws
import Derived.LaidHandle
import Derived.Handed
import Derived.ChangeSame
import Derived.ChangeVars
import Derived.SevenTiedAt
set_option linter.unusedVariables false
set_option linter.unusedSimpArgs false
namespace Go.Proofs.YteckohdbfkhmdabGreatDoor.mirrorSays
open Go Go.Sw Go.Mo Go.Cn Go.Pl Go.ChangeShapes Go.WideShapes Go.ChangeAt Go.RowKit
set_option linter.unusedVariables false
set_option maxRecDepth 100000
theorem own:ownKnob Tryz.prog.godebug=none:=by kernel_rfl
theorem AT:laidOutB Tryz.prog=true:=by kernel_rfl
theorem et:Tryz.prog.globalNamed "errors.errorType"=some 0:=by kernel_rfl
theorem rt:(Tryz.prog.cutTypes.find? (·.1== "internal/reflectlite.rtype")).map (·.2)=some 148:=by kernel_rfl
theorem PE:((List.range Tryz.prog.types.size).filter fun t=>Tryz.prog.rowNamed t [101,114,114,111,114])=[25]:=by kernel_rfl
theorem DO{W:World}(h:laidMetH Tryz.prog Rows.mirrorSaysRow.laid W):∃T fr,W.heap[0]? =some (.cells #[GV] T fr):=by
 have B:laidMet Tryz.prog [] W/\handlesMet Tryz.prog Rows.mirrorSaysRow.laid W:=h;obtain⟨F,u,G,H,I,K,L,z⟩:=B.2 _ (aCd.2 rfl);have C:F=[101,114,114,111,114]:=(pT H).symm;subst C;obtain rfl:=pT (rt.symm.trans I);have A:G∈(List.range Tryz.prog.types.size).filter fun t=>Tryz.prog.rowNamed t [101,114,114,111,114]:=aCj.2 ⟨aBw.2 K,L⟩;rw[PE] at A;obtain rfl:=aCd.1 A;have D:typeHandle Tryz.prog 25= .pointer (some ⟨1,25,none⟩):=by kernel_rfl
 rw[D] at z;simp only[World.var?,et,cM] at z;split at z
 ·rename_i M T fr E;obtain rfl:=pT z;exact⟨T,fr,E⟩
 ·cases z
theorem IZ{α:Type}{e:Enc α}[FlatE e]{xs:List α}{W:World}{v:Value}{T:TypeId}{fr:Nat×Nat}(hb:W.heap[0]? =some (.cells #[GV] T fr))(hd:∀x S w ds,e.ok x S w ds->∃k n r,ds= .int k n::r)
  (h:(Enc.sl e).val xs (fun _=>False) W v):(Enc.sl e).val xs (fun k=>k=0) W v:=by
 obtain⟨F,⟨a,G,H,I,z⟩,K⟩:=h;refine⟨F,⟨a,G,H,I,?_⟩,K⟩;rcases z with z |⟨b,A,ds,Q,R,U,C,D⟩
 ·exact .inl z
 cases xs with
 |nil=>exact .inl rfl
 |cons x xs=>
  refine .inr ⟨b,A,ds,Q,R,fun E=>?_,C,FlatE.okL D⟩;subst E;obtain⟨c,d,L,M,_⟩:=D;obtain⟨k,n,r,N⟩:=hd _ _ _ _ M;subst N;subst L;obtain⟨cells,O,fr2,B,P⟩:=C;rw[hb] at B;obtain⟨rfl,_,_⟩: #[GV]=cells/\T=O/\fr=fr2:=by simpa using B
  have u:=P 0 (by simp);simp only[aDh,aBh,List.getElem_cons_zero] at u;rcases A with _ | A
  ·simp[GV] at u
  ·simp at u
theorem TC:RdV Tryz.prog 3 (Enc.int .i64):=(RdV.int Tryz.underlying3)
theorem SQ:RdV Tryz.prog 22 (Enc.sl (Enc.pr (Enc.int .i64) (Enc.pr (Enc.int .i64) (Enc.pr (Enc.int .i64) aN)))):=(RdV.sl (E:=37) Tryz.underlying22 (by kernel_rfl) rfl (by kernel_rfl) (RdE.struct Tryz.underlying37 (by kernel_rfl) (RdFs.cons rfl (by kernel_rfl) (RdE.int Tryz.underlying3) (RdFs.cons rfl (by kernel_rfl) (RdE.int Tryz.underlying3) (RdFs.cons rfl (by kernel_rfl) (RdE.int Tryz.underlying3) (RdFs.last rfl (by kernel_rfl) (RdE.arr (E:=5) Tryz.underlying33 (by kernel_rfl) (by kernel_rfl) (RdE.int Tryz.underlying5))))))))
noncomputable def laidWorld (os:Os):World:=
 let h:=World.holding Tryz.prog os ⟨#[],#[],[]⟩
 { h with heap:=h.heap.modify 0 fun
   | .cells _ t u=> .cells #[GV] t u
   |o=>o }
theorem JB(os:Os)(args:Array Value):laidMetH Tryz.prog Rows.mirrorSaysRow.laid ((laidWorld os).forCall (fun _ _=>0) ⟨#[],args,[]⟩).memory:=
 laidMetH_of_parts (laidMet_nil _ _) (by kernel_rfl)
theorem PF(os:Os)(started:os.Started)(H:Type)(enc:TypeId×Value->H):
  ReturnsInHanded {} Tryz.checked os 3 .any (fun w args=>(Rows.mirrorSaysSpec.pre enc Tryz.prog Tryz.f3 Rows.mirrorSaysRow.domain false w args/\laidMetH Tryz.prog Rows.mirrorSaysRow.laid w)/\sizedMet enc Tryz.prog Tryz.f3 (OpenSpec.ofChange Rows.mirrorSaysSpec) false w args) (Rows.mirrorSaysSpec.post enc Tryz.prog Tryz.f3 false true false false):=by
 refine returnsInHanded_of_change_and (C:=Tryz.checked) (X:=fun w _=>laidMetH Tryz.prog Rows.mirrorSaysRow.laid w) (fun _ _ _ hh h=>h.of_heap hh) own started (by kernel_rfl) Tryz.func3
  (ChangeSpec.witness_at (enc:=enc) (C:=Tryz.checked) (os:=os) (X:=fun w _=>laidMetH Tryz.prog Rows.mirrorSaysRow.laid w) false (laidWorld os) #[.int .i64 0,.slice none 0 0] 8 rfl (by kernel_rfl) (by kernel_rfl) (by kernel_rfl) (by kernel_rfl) (by kernel_rfl) (JB os _)) ?_
 intro W ad args G gs af Q R _ ae hL _;have D:∀(j:Nat) t v,Tryz.f3.params[j]? =some t->args[j]? =some v->Value.okWide Tryz.prog W .any ad t v:=Q;have aa:=R;obtain⟨p,q,U,hV,rfl,ah,ai⟩:=R;have N:DataW.TrodAll enc Tryz.prog W 0 (fun _=>true) true Tryz.f3.params.toList args.toList G p:=U;have E:(DataW.weightsEach Tryz.prog (Tryz.f3.params.toList++Rows.mirrorSaysSpec.plain.varTypes Tryz.prog) (G++gs)).all (·<=reachBytes)=true:=ae;rw[Tryz.params3] at N D E;obtain⟨u,aj,d0,ak,V,q0,al,rfl,rfl,h0,r0⟩:=trodAll_cons N;obtain⟨z,am,d1,an,p1,q1,rfl,rfl,rfl,B,r1⟩:=trodAll_cons r0;obtain⟨rfl,rfl,rfl⟩:=trodAll_nil r1;obtain rfl:args= #[u,z]:=by cases args;simp_all
 obtain⟨rfl,rfl⟩:=trodVars_none hV;have O:=h0;have ab:∀x∈V,x.block<W.heap.size:=by obtain⟨m,L⟩:=O;exact DataW.trod_lt m _ _ _ L
 obtain⟨x0,F⟩:=TC H enc W W u d0 V (D 0 3 u rfl rfl) h0 (fun n I=>by simpa using aAh.1 E n (DataW.weights_mem_each (j:=0) (t:=3) rfl rfl n I));have P:=B;have ac:∀x∈p1,x.block<W.heap.size:=by obtain⟨m,L⟩:=P;exact DataW.trod_lt m _ _ _ L
 obtain⟨x1,A⟩:=SQ H enc W W z d1 p1 (D 1 22 z rfl rfl) B (fun n I=>by simpa using aAh.1 E n (DataW.weights_mem_each (j:=1) (t:=22) rfl rfl n I));obtain⟨T,fr,M⟩:=DO hL;have hg:W.cell? ⟨0,0,none⟩=some GV:=by simp[World.cell?,M]
 clear U Q;have hv:aV (fun _=> .of (.pointer (some ⟨0,0,none⟩))) (fun k=>k=0) W [.v (Enc.int .i64) x0,.v (Enc.sl (Enc.pr (Enc.int .i64) (Enc.pr (Enc.int .i64) (Enc.pr (Enc.int .i64) aN)))) x1] [u,z]:=by
  simp only[aV];exact⟨u,_,rfl,(by simp only[Slot.ok];exact(Dc.2 (Dc.1 F))),⟨z,_,rfl,(by simp only[Slot.ok];exact(IZ M (fun x S w G h=>by obtain⟨c,d,rfl,B,_⟩:=h;exact⟨_,x.1,d,by rw[B.1];rfl⟩) A)),rfl⟩⟩
 have F:=Pa F;have A:=Pa A;refine((Bx (fun _=>0) (DD A)).lawG hg M hv).mono fun e W' ⟨he,K⟩=>?_;subst he;exact⟨_,rfl,_,_,_,[],_,[],aa,trodAll_mk1 (shut_bool Tryz.underlying4 _),(trodAll_cons_mk (Below.trod AT (by kernel_rfl) (aEo (by kernel_rfl)) O K ab) (trodAll_cons_mk (Below.trod AT (by kernel_rfl) (aEo (by kernel_rfl)) P K ac) trodAll_mk0)),rfl,K.frame _,fun h=>by cases h⟩
theorem said:Rows.MirrorSaysSaid:=
 OpenClaim.holds_of_wide 3 Tryz.f3 rfl rfl rfl rfl rfl rfl rfl ⟨rfl,rfl,rfl,rfl,rfl⟩ rfl rfl rfl rfl rfl (by kernel_rfl) Tryz.func3 (by kernel_rfl)
  (aEo (by kernel_rfl)) (by unfold Func.isWrapper;first | (rw[aAn (by decide+kernel)];kernel_rfl) | (rw[aAj (by decide+kernel)];exact⟨rfl,rfl⟩))
  (fun h u H enc _=>PF h u H enc)
theorem proved:Rows.MirrorSaysCardSaid:=
 Claim7.holds_tied_plain_at .later [] [.handle] true (true,"6ec5e423acf0410adde7a202e4e9e4584df4e330ae11cded0d3f674872071a19") true
  said (fun _ h=>by cases h) (by kernel_rfl) (fun _ h=>by cases h) mirrorSays_row_tie rfl ⟨rfl,rfl⟩ (by kernel_rfl) rfl
  (fun f fn A B=>by
   obtain rfl:f=3:=pT ((show Tryz.prog.funcNamed "stillwater/stillwaterlaw.MirrorSays"=some 3 by kernel_rfl).symm.trans A) |>.symm;obtain rfl:fn=Tryz.f3:=(pT (Tryz.func3.symm.trans B)).symm
   exact⟨by kernel_rfl,fun j t u=>by
    rw[Tryz.params3] at u;have u:t∈ [3,22]:=by
     obtain⟨C,e⟩:=aBm.1 u;rw[<-e];exact Array.getElem_mem_toList C
    have z:∀t∈ [3,22],Tryz.prog.wantsStandIn t=false:=by
     intro t h;simp only[aAo,aCs,aEu] at h;rcases h with rfl | rfl<;>kernel_rfl
    exact z t u⟩)
  (by kernel_rfl)
#print axioms proved
end Go.Proofs.YteckohdbfkhmdabGreatDoor.mirrorSays
