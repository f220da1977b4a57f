/- ConsoleSays: closed facts of its row. Conditions: none. -/
import Derived.Test.YthpkohijooimbaaGreatDoorMFConsoleSays
import Derived.Test.YthpkohijooimbaaGreatDoorRows
import Derived.WalkKit
import Derived.ProofKit
import Derived.OpenShut
import Derived.ShutString
import Derived.ChangeOld
import Derived.Below
import Derived.Test.YthpkohijooimbaaGreatDoorChecked
import Derived.LaidLaws
import Derived.LaidHandle
import Derived.LaidSub
import Derived.Lay
import Derived.Lib.LaidTab
import Derived.Handed
import Derived.ChangeSame
import Derived.ChangeVars
set_option linter.unusedVariables false
set_option linter.unusedSimpArgs false
set_option linter.unusedSectionVars false
namespace Go.Proofs.YthpkohijooimbaaGreatDoor.consoleSays
open Go Go.Sw Go.Mo Go.Cn Go.Pl Go.ChangeShapes Go.WideShapes Go.ChangeAt Go.RowKit
section
set_option maxRecDepth 100000
theorem own:ownKnob Tryz.prog.godebug=none:=by kernel_rfl
theorem DZ:laidOutB Tryz.prog=true:=by kernel_rfl
theorem et:Tryz.prog.globalNamed "errors.errorType"=some 6:=by kernel_rfl
theorem rt:(Tryz.prog.cutTypes.find? (·.1== "internal/reflectlite.rtype")).map (·.2)=some 327:=by kernel_rfl
theorem aA1:((List.range Tryz.prog.types.size).filter λt=>Tryz.prog.rowNamed t [101,114,114,111,114])=[53]:=by kernel_rfl
theorem II{W:aAf}(h:laidMetH Tryz.prog Rows.consoleSaysRow.laid W):∃T fr,W.heap[6]? =some (.cells #[GV] T fr):=by
 obtain⟨F,u,G,I,K,L,M,A⟩:=(laidMetH_iff.1 h).2 ("errors.errorType",Rows.laid_errors_errorType) (aFg.2 ⟨aEd (i:=4) rfl,by kernel_rfl⟩);have C:F=[101,114,114,111,114]:=(X6 I).symm;subst C;obtain rfl:=X6 (rt.symm.trans K);have B:G∈(List.range Tryz.prog.types.size).filter λt=>Tryz.prog.rowNamed t [101,114,114,111,114]:=aFg.2 ⟨zd.2 L,M⟩;rw[aA1] at B;obtain rfl:=aFf.1 B;have D:typeHandle Tryz.prog 53= .pointer (some ⟨9,53,none⟩):=by kernel_rfl
 rw[D] at A;simp only[World.var?,et,cA] at A;split at A
 ·rename_i cs T fr E;obtain rfl:=X6 A;exact⟨T,fr,E⟩
 ·cases A
theorem pow{W:aAf}(h:laidMetH Tryz.prog Rows.consoleSaysRow.laid W):∃T fr,W.heap[1]? =some (.cells (Lib.pow10Tab.map λz=>Value.int .u64 z).toArray T fr):=by
 have A:=(laidMetH_iff.1 h).1.filter λx=>x.1== "internal/strconv.uint64pow10";have B:laidMet Tryz.prog [("internal/strconv.uint64pow10",Lib.tabData .u64 Lib.pow10Tab)] W:=A;have u:=Lib.tabIs_of_head (g:=1) (t:=218) (n:=20) (by kernel_rfl) (by kernel_rfl) Tryz.underlying218 Tryz.underlying81 (by kernel_rfl) (by kernel_rfl) B;unfold Lib.TabIs World.var? at u;rw[show Tryz.prog.globalNamed "internal/strconv.uint64pow10"=some 1 by kernel_rfl,cA] at u;split at u
 ·rename_i cs T fr C;obtain rfl:=X6 u;exact⟨T,fr,C⟩
 ·cases u
theorem aA2{W:aAf}(h:W.ShapedOpen Tryz.prog){g:Nat}{z:Array aA4}{t:aAg}(hg:g<Tryz.prog.globals.size)(h0:((begin Tryz.prog (λ_ _=>0) default).world.heap[g]?).bind Obj.row? =some (z,t)):∃cs,W.heap[g]? =some (.cells cs t):=by
 obtain⟨cs,u,_⟩:=h.1 g z t hg h0;exact⟨cs,u⟩
theorem mx{W:aAf}(h:W.ShapedOpen Tryz.prog):∃m:Int,W.heap[0]? =some (.cells #[.int .i64 m] 3):=by
 obtain⟨cs,D,B,E⟩:=h.1 0 #[.int .i64 0] 3 (by decide) (by kernel_rfl);obtain⟨K,F,_,G⟩:=E (by kernel_rfl);have C:Tryz.prog.cellTypes Tryz.prog.depth 3=some [3]:=by kernel_rfl
 obtain rfl:=X6 (C.symm.trans F);have B:cs.size=1:=B;obtain⟨u,I,A⟩:=G 0 cs[0] (by simp[B]);obtain rfl:3=u:=by simpa using I
 unfold Cell.ok at A;rw[Tryz.underlying3] at A;obtain⟨l⟩:=cs
 match l,B with
 | [v],_=>
  have A:=A;cases v<;>first | exact⟨_,by simp at A;obtain⟨rfl,_⟩:=A;exact D⟩| simp at A
noncomputable def uy (os:Os):aAf:=
 let u:=(World.holding Tryz.prog os ⟨#[],#[],[]⟩).layVars Tryz.prog (Rows.consoleSaysRow.laid.filter λx=>x.2.handleName?.isNone)
 { u with heap:=u.heap.modify 6 fun
   | .cells _ t A=> .cells #[GV] t A
   |o=>o }
theorem QC(os:Os)(args:Array aA4):laidMetH Tryz.prog Rows.consoleSaysRow.laid ((uy os).forCall (λ_ _=>0) ⟨#[],args,[]⟩).memory:=
 laidMetH_of_parts (laidMet_of_run' 400 (by kernel_rfl) (by kernel_rfl)) (by kernel_rfl)
theorem aN7:Tryz.prog.funcNamed "stillwater/stillwaterlaw.ConsoleSays"=some 3:=by kernel_rfl
theorem j3:mapsRowed Tryz.prog=true:=by kernel_rfl
theorem j10:(Rows.consoleSaysRow.inPlace==Tryz.prog.inPlace 3)=true:=by kernel_rfl
theorem j11:(Rows.consoleSaysRow.unfollowed==Tryz.prog.unfollowed 3)=true:=by kernel_rfl
theorem j12:(Rows.consoleSaysRow.recurses==Tryz.prog.recurses 3)=true:=by kernel_rfl
theorem j13:(Rows.consoleSaysRow.named==Tryz.prog.varsNamed 3)=true:=by kernel_rfl
theorem aD2{a b:Bool}(h:a=true)(k:b=true):(a && b)=true:=by rw[h,k];rfl
theorem jf:joinedFacts Tryz.prog 3 Tryz.f3 Rows.consoleSaysSpec Rows.consoleSaysRow=true:=by
 unfold joinedFacts
 repeat' (with_reducible apply aD2)
 ·kernel_rfl
 ·exact DZ
 ·exact j3
 ·kernel_rfl
 ·kernel_rfl
 ·kernel_rfl
 ·kernel_rfl
 ·kernel_rfl
 ·kernel_rfl
 ·exact j10
 ·exact j11
 ·exact j12
 ·exact j13
 all_goals kernel_rfl
theorem jw:Tryz.f3.isWrapper Tryz.prog Rows.consoleSaysRow.wrapper Rows.consoleSaysRow.mainSum:=by unfold Func.isWrapper;first | (rw[sM (by decide+kernel)];kernel_rfl) | (rw[nS (by decide+kernel)];exact⟨rfl,rfl⟩)
theorem ji:Tryz.f3.isInstance Tryz.prog Rows.consoleSaysRow.origin Rows.consoleSaysRow.targs:=aHw (by kernel_rfl)
end
end Go.Proofs.YthpkohijooimbaaGreatDoor.consoleSays
