/-
  No cell of these rows narrows 'for every input' (looked for: loops, veiled, ifaces, maps, wideKeys, modest, calm, conditions, laid).
  DERIVED. THE GIVEN ROWS OF THIS SEAT. 12 by the template 'for every input the law returns true; each argument reads behind the call as it read before'; 0 by the template 'total and deterministic' (their statements: YteckohdbfkhmdaaTotals.lean).
  GIVEN WITH THE SEED: the statements are not yours to turn. If you find one false, say at which input.
  Laid BY PROGRAM, IN A SANDBOX (cutbox-rows.mjs): the forced cells as the released guide's own fill.sh prints them over the translation 9f15417d0a2d678f… (all of the seat's roots in one cut). By AI agents, Wed Nov 11 2026. No macro, syntax, notation, axiom, sorry.
-/
import Derived.Test.YteckohdbfkhmdaaChecked
import GoSem.Claim
import GoSem.ClaimJoined
import GoSem.ClaimMapViews
import Derived.JoinedTies
import Derived.KernelRfl
namespace Go.Proofs.Yteckohdbfkhmdaa
/- THE CELL 'sum', in the pinned program and in every row, IS THE sha256 OF THE DUMP (.gsa) THAT YteckohdbfkhmdaaProg.lean LOADS. Nothing in Lean hashes anything: it is a label: what it is worth is what the hold of that sum in a sandbox is worth. -/
noncomputable def Try.pinned : Pinned := { name := "yteckohdbfkhmdaa", sum := "9f15417d0a2d678fdc168ddc0cf0a19a97ddee754f05c51c5f065e85b658b8b5", checked := Try.checked }
namespace Rows
def none {H : Type} : Left H := { results := [], args := [] }

/-- 'stillwaterlaw.CacheHad': WHATEVER THE INPUT: true; the input reads as it did. -/
def cacheHadSpec : ChangeSpec := { name := "cacheHad", fn := fun _ => fun
  | [d1, d2] => { results := [.lit (.bool true)], args := [d1, d2] }
  | _ => none }
def cacheHadRow : OpenClaim := { program := "yteckohdbfkhmdaa", sum := "9f15417d0a2d678fdc168ddc0cf0a19a97ddee754f05c51c5f065e85b658b8b5", func := "stillwater/stillwaterlaw.CacheHad", spec := "cacheHad", plainKeys := false, apart := false }
def CacheHadSaid : Prop := cacheHadRow.holds Try.pinned (OpenSpec.ofChange cacheHadSpec)

/-- ITS FALSE NEIGHBOUR: 'it returns false'. Refute it at one input. -/
def cacheHadWrong : ChangeSpec := { name := "cacheHad", fn := fun _ => fun
  | [d1, d2] => { results := [.lit (.bool false)], args := [d1, d2] }
  | _ => none }
def CacheHadWrongFalsely : Prop := cacheHadRow.holds Try.pinned (OpenSpec.ofChange cacheHadWrong)

/-- 'stillwaterlaw.FrameSays': WHATEVER THE INPUT: true; the input reads as it did. -/
def frameSaysSpec : ChangeSpec := { name := "frameSays", fn := fun _ => fun
  | [d] => { results := [.lit (.bool true)], args := [d] }
  | _ => none }
def frameSaysRow : OpenClaim := { program := "yteckohdbfkhmdaa", sum := "9f15417d0a2d678fdc168ddc0cf0a19a97ddee754f05c51c5f065e85b658b8b5", func := "stillwater/stillwaterlaw.FrameSays", spec := "frameSays", unfollowed := true, recurses := true, plainKeys := false, apart := false }
def FrameSaysSaid : Prop := frameSaysRow.holds Try.pinned (OpenSpec.ofChange frameSaysSpec)

/-- ITS FALSE NEIGHBOUR: 'it returns false'. Refute it at one input. -/
def frameSaysWrong : ChangeSpec := { name := "frameSays", fn := fun _ => fun
  | [d] => { results := [.lit (.bool false)], args := [d] }
  | _ => none }
def FrameSaysWrongFalsely : Prop := frameSaysRow.holds Try.pinned (OpenSpec.ofChange frameSaysWrong)

/-- 'stillwaterlaw.DiskCrash': WHATEVER THE INPUT: true; the input reads as it did. -/
def diskCrashSpec : ChangeSpec := { name := "diskCrash", fn := fun _ => fun
  | [d1, d2, d3] => { results := [.lit (.bool true)], args := [d1, d2, d3] }
  | _ => none }
def diskCrashRow : OpenClaim := { program := "yteckohdbfkhmdaa", sum := "9f15417d0a2d678fdc168ddc0cf0a19a97ddee754f05c51c5f065e85b658b8b5", func := "stillwater/stillwaterlaw.DiskCrash", spec := "diskCrash", unfollowed := true, recurses := true, plainKeys := false, apart := false }
def DiskCrashSaid : Prop := diskCrashRow.holds Try.pinned (OpenSpec.ofChange diskCrashSpec)

/-- ITS FALSE NEIGHBOUR: 'it returns false'. Refute it at one input. -/
def diskCrashWrong : ChangeSpec := { name := "diskCrash", fn := fun _ => fun
  | [d1, d2, d3] => { results := [.lit (.bool false)], args := [d1, d2, d3] }
  | _ => none }
def DiskCrashWrongFalsely : Prop := diskCrashRow.holds Try.pinned (OpenSpec.ofChange diskCrashWrong)

/-- 'stillwaterlaw.FrameReads': WHATEVER THE INPUT: true; the input reads as it did. -/
def frameReadsSpec : ChangeSpec := { name := "frameReads", fn := fun _ => fun
  | [d] => { results := [.lit (.bool true)], args := [d] }
  | _ => none }
def frameReadsRow : OpenClaim := { program := "yteckohdbfkhmdaa", sum := "9f15417d0a2d678fdc168ddc0cf0a19a97ddee754f05c51c5f065e85b658b8b5", func := "stillwater/stillwaterlaw.FrameReads", spec := "frameReads", unfollowed := true, recurses := true, plainKeys := false, apart := false }
def FrameReadsSaid : Prop := frameReadsRow.holds Try.pinned (OpenSpec.ofChange frameReadsSpec)

/-- ITS FALSE NEIGHBOUR: 'it returns false'. Refute it at one input. -/
def frameReadsWrong : ChangeSpec := { name := "frameReads", fn := fun _ => fun
  | [d] => { results := [.lit (.bool false)], args := [d] }
  | _ => none }
def FrameReadsWrongFalsely : Prop := frameReadsRow.holds Try.pinned (OpenSpec.ofChange frameReadsWrong)

/-- 'stillwaterlaw.FrameTorn': WHATEVER THE INPUT: true; the input reads as it did. -/
def frameTornSpec : ChangeSpec := { name := "frameTorn", fn := fun _ => fun
  | [d1, d2, d3, d4] => { results := [.lit (.bool true)], args := [d1, d2, d3, d4] }
  | _ => none }
def frameTornRow : OpenClaim := { program := "yteckohdbfkhmdaa", sum := "9f15417d0a2d678fdc168ddc0cf0a19a97ddee754f05c51c5f065e85b658b8b5", func := "stillwater/stillwaterlaw.FrameTorn", spec := "frameTorn", unfollowed := true, recurses := true, plainKeys := false, apart := false }
def FrameTornSaid : Prop := frameTornRow.holds Try.pinned (OpenSpec.ofChange frameTornSpec)

/-- ITS FALSE NEIGHBOUR: 'it returns false'. Refute it at one input. -/
def frameTornWrong : ChangeSpec := { name := "frameTorn", fn := fun _ => fun
  | [d1, d2, d3, d4] => { results := [.lit (.bool false)], args := [d1, d2, d3, d4] }
  | _ => none }
def FrameTornWrongFalsely : Prop := frameTornRow.holds Try.pinned (OpenSpec.ofChange frameTornWrong)

/-- 'stillwaterlaw.TreeSays': WHATEVER THE INPUT: true; the input reads as it did. -/
def treeSaysSpec : ChangeSpec := { name := "treeSays", fn := fun _ => fun
  | [d1, d2] => { results := [.lit (.bool true)], args := [d1, d2] }
  | _ => none }
def treeSaysRow : OpenClaim := { program := "yteckohdbfkhmdaa", sum := "9f15417d0a2d678fdc168ddc0cf0a19a97ddee754f05c51c5f065e85b658b8b5", func := "stillwater/stillwaterlaw.TreeSays", spec := "treeSays", unfollowed := true, recurses := true, plainKeys := false, apart := false }
def TreeSaysSaid : Prop := treeSaysRow.holds Try.pinned (OpenSpec.ofChange treeSaysSpec)

/-- ITS FALSE NEIGHBOUR: 'it returns false'. Refute it at one input. -/
def treeSaysWrong : ChangeSpec := { name := "treeSays", fn := fun _ => fun
  | [d1, d2] => { results := [.lit (.bool false)], args := [d1, d2] }
  | _ => none }
def TreeSaysWrongFalsely : Prop := treeSaysRow.holds Try.pinned (OpenSpec.ofChange treeSaysWrong)

/-- 'stillwaterlaw.PlanApplies': WHATEVER THE INPUT: true; the input reads as it did. -/
def planAppliesSpec : ChangeSpec := { name := "planApplies", fn := fun _ => fun
  | [d1, d2, d3] => { results := [.lit (.bool true)], args := [d1, d2, d3] }
  | _ => none }
def planAppliesRow : OpenClaim := { program := "yteckohdbfkhmdaa", sum := "9f15417d0a2d678fdc168ddc0cf0a19a97ddee754f05c51c5f065e85b658b8b5", func := "stillwater/stillwaterlaw.PlanApplies", spec := "planApplies", plainKeys := false, apart := false }
def PlanAppliesSaid : Prop := planAppliesRow.holds Try.pinned (OpenSpec.ofChange planAppliesSpec)

/-- ITS FALSE NEIGHBOUR: 'it returns false'. Refute it at one input. -/
def planAppliesWrong : ChangeSpec := { name := "planApplies", fn := fun _ => fun
  | [d1, d2, d3] => { results := [.lit (.bool false)], args := [d1, d2, d3] }
  | _ => none }
def PlanAppliesWrongFalsely : Prop := planAppliesRow.holds Try.pinned (OpenSpec.ofChange planAppliesWrong)

/-- 'stillwaterlaw.TreeDiffs': WHATEVER THE INPUT: true; the input reads as it did. -/
def treeDiffsSpec : ChangeSpec := { name := "treeDiffs", fn := fun _ => fun
  | [d1, d2] => { results := [.lit (.bool true)], args := [d1, d2] }
  | _ => none }
def treeDiffsRow : OpenClaim := { program := "yteckohdbfkhmdaa", sum := "9f15417d0a2d678fdc168ddc0cf0a19a97ddee754f05c51c5f065e85b658b8b5", func := "stillwater/stillwaterlaw.TreeDiffs", spec := "treeDiffs", unfollowed := true, recurses := true, plainKeys := false, apart := false }
def TreeDiffsSaid : Prop := treeDiffsRow.holds Try.pinned (OpenSpec.ofChange treeDiffsSpec)

/-- ITS FALSE NEIGHBOUR: 'it returns false'. Refute it at one input. -/
def treeDiffsWrong : ChangeSpec := { name := "treeDiffs", fn := fun _ => fun
  | [d1, d2] => { results := [.lit (.bool false)], args := [d1, d2] }
  | _ => none }
def TreeDiffsWrongFalsely : Prop := treeDiffsRow.holds Try.pinned (OpenSpec.ofChange treeDiffsWrong)

/-- 'stillwaterlaw.TreePuts': WHATEVER THE INPUT: true; the input reads as it did. -/
def treePutsSpec : ChangeSpec := { name := "treePuts", fn := fun _ => fun
  | [d1, d2, d3] => { results := [.lit (.bool true)], args := [d1, d2, d3] }
  | _ => none }
def treePutsRow : OpenClaim := { program := "yteckohdbfkhmdaa", sum := "9f15417d0a2d678fdc168ddc0cf0a19a97ddee754f05c51c5f065e85b658b8b5", func := "stillwater/stillwaterlaw.TreePuts", spec := "treePuts", unfollowed := true, recurses := true, plainKeys := false, apart := false }
def TreePutsSaid : Prop := treePutsRow.holds Try.pinned (OpenSpec.ofChange treePutsSpec)

/-- ITS FALSE NEIGHBOUR: 'it returns false'. Refute it at one input. -/
def treePutsWrong : ChangeSpec := { name := "treePuts", fn := fun _ => fun
  | [d1, d2, d3] => { results := [.lit (.bool false)], args := [d1, d2, d3] }
  | _ => none }
def TreePutsWrongFalsely : Prop := treePutsRow.holds Try.pinned (OpenSpec.ofChange treePutsWrong)

/-- 'stillwatertop.TopDiff': WHATEVER THE INPUT: true; the input reads as it did. -/
def topDiffSpec : ChangeSpec := { name := "topDiff", fn := fun _ => fun
  | [d1, d2, d3, d4] => { results := [.lit (.bool true)], args := [d1, d2, d3, d4] }
  | _ => none }
def topDiffRow : OpenClaim := { program := "yteckohdbfkhmdaa", sum := "9f15417d0a2d678fdc168ddc0cf0a19a97ddee754f05c51c5f065e85b658b8b5", func := "stillwater/stillwatertop.TopDiff", spec := "topDiff", unfollowed := true, recurses := true, plainKeys := false, apart := false }
def TopDiffSaid : Prop := topDiffRow.holds Try.pinned (OpenSpec.ofChange topDiffSpec)

/-- ITS FALSE NEIGHBOUR: 'it returns false'. Refute it at one input. -/
def topDiffWrong : ChangeSpec := { name := "topDiff", fn := fun _ => fun
  | [d1, d2, d3, d4] => { results := [.lit (.bool false)], args := [d1, d2, d3, d4] }
  | _ => none }
def TopDiffWrongFalsely : Prop := topDiffRow.holds Try.pinned (OpenSpec.ofChange topDiffWrong)

/-- 'stillwaterlaw.DiskSays': WHATEVER THE INPUT: true; the input reads as it did. -/
def diskSaysSpec : ChangeSpec := { name := "diskSays", fn := fun _ => fun
  | [d1, d2, d3] => { results := [.lit (.bool true)], args := [d1, d2, d3] }
  | _ => none }
def diskSaysRow : OpenClaim := { program := "yteckohdbfkhmdaa", sum := "9f15417d0a2d678fdc168ddc0cf0a19a97ddee754f05c51c5f065e85b658b8b5", func := "stillwater/stillwaterlaw.DiskSays", spec := "diskSays", unfollowed := true, recurses := true, plainKeys := false, apart := false }
def DiskSaysSaid : Prop := diskSaysRow.holds Try.pinned (OpenSpec.ofChange diskSaysSpec)

/-- ITS FALSE NEIGHBOUR: 'it returns false'. Refute it at one input. -/
def diskSaysWrong : ChangeSpec := { name := "diskSays", fn := fun _ => fun
  | [d1, d2, d3] => { results := [.lit (.bool false)], args := [d1, d2, d3] }
  | _ => none }
def DiskSaysWrongFalsely : Prop := diskSaysRow.holds Try.pinned (OpenSpec.ofChange diskSaysWrong)

/-- 'stillwaterlaw.PlanSays': WHATEVER THE INPUT: true; the input reads as it did. -/
def planSaysSpec : ChangeSpec := { name := "planSays", fn := fun _ => fun
  | [d1, d2, d3] => { results := [.lit (.bool true)], args := [d1, d2, d3] }
  | _ => none }
def planSaysRow : OpenClaim := { program := "yteckohdbfkhmdaa", sum := "9f15417d0a2d678fdc168ddc0cf0a19a97ddee754f05c51c5f065e85b658b8b5", func := "stillwater/stillwaterlaw.PlanSays", spec := "planSays", unfollowed := true, recurses := true, plainKeys := false, apart := false }
def PlanSaysSaid : Prop := planSaysRow.holds Try.pinned (OpenSpec.ofChange planSaysSpec)

/-- ITS FALSE NEIGHBOUR: 'it returns false'. Refute it at one input. -/
def planSaysWrong : ChangeSpec := { name := "planSays", fn := fun _ => fun
  | [d1, d2, d3] => { results := [.lit (.bool false)], args := [d1, d2, d3] }
  | _ => none }
def PlanSaysWrongFalsely : Prop := planSaysRow.holds Try.pinned (OpenSpec.ofChange planSaysWrong)

/- THE SECOND FORM. 'bulk': how many values and letters a reading holds, each counted each time it is reached (what is shared counts as often as it is met; a slice's spare places count too). A statement '..UptoSaid' is the law's where the arguments, and the package variables that the reading takes, are together of bulk at most 1048576: NARROWER than '..Said'. Prove '..Said' where nothing that the law and all that it calls make is longer than what came in: it says more and counts as full. Else prove '..UptoSaid'. A law counts once. -/
mutual
def uptoBulk {H : Type} : DataW H → Nat
  | .lit (.string bytes) => bytes.length + 1
  | .lit _ => 1
  | .nil => 1
  | .ptr d => uptoBulk d + 1
  | .slice elems spare => uptoBulkAll elems + uptoBulkAll spare + 1
  | .agg parts => uptoBulkAll parts + 1
  | .iface _ d => uptoBulk d + 1
  | .map entries => uptoBulkEntries entries + 1
  | .held _ => 1
def uptoBulkAll {H : Type} : List (DataW H) → Nat
  | [] => 0
  | d :: r => uptoBulk d + uptoBulkAll r
def uptoBulkEntries {H : Type} : List (Lit × DataW H) → Nat
  | [] => 0
  | x :: r => uptoBulkEntry x + uptoBulkEntries r
def uptoBulkEntry {H : Type} : Lit × DataW H → Nat
  | (.string bytes, d) => bytes.length + uptoBulk d + 1
  | (_, d) => uptoBulk d + 1
 end
def uptoSmall : (H : Type) → List (DataW H) → Bool := fun _ ds => decide (uptoBulkAll ds ≤ 1048576)
def OpenSpec.upto (s : _root_.Go.ChangeSpec) : _root_.Go.OpenSpec := { _root_.Go.OpenSpec.ofChange s with cond := some uptoSmall }

/-- 'stillwaterlaw.CacheHad', WHERE WHAT IT READS IS OF BULK AT MOST 1048576: true; the input reads as it did. -/
def cacheHadUptoRow : OpenClaim := { program := "yteckohdbfkhmdaa", sum := "9f15417d0a2d678fdc168ddc0cf0a19a97ddee754f05c51c5f065e85b658b8b5", func := "stillwater/stillwaterlaw.CacheHad", spec := "cacheHad", plainKeys := false, apart := false, narrowed := true }
def CacheHadUptoSaid : Prop := cacheHadUptoRow.holds Try.pinned (OpenSpec.upto cacheHadSpec)

/-- 'stillwaterlaw.FrameSays', WHERE WHAT IT READS IS OF BULK AT MOST 1048576: true; the input reads as it did. -/
def frameSaysUptoRow : OpenClaim := { program := "yteckohdbfkhmdaa", sum := "9f15417d0a2d678fdc168ddc0cf0a19a97ddee754f05c51c5f065e85b658b8b5", func := "stillwater/stillwaterlaw.FrameSays", spec := "frameSays", unfollowed := true, recurses := true, plainKeys := false, apart := false, narrowed := true }
def FrameSaysUptoSaid : Prop := frameSaysUptoRow.holds Try.pinned (OpenSpec.upto frameSaysSpec)

/-- 'stillwaterlaw.DiskCrash', WHERE WHAT IT READS IS OF BULK AT MOST 1048576: true; the input reads as it did. -/
def diskCrashUptoRow : OpenClaim := { program := "yteckohdbfkhmdaa", sum := "9f15417d0a2d678fdc168ddc0cf0a19a97ddee754f05c51c5f065e85b658b8b5", func := "stillwater/stillwaterlaw.DiskCrash", spec := "diskCrash", unfollowed := true, recurses := true, plainKeys := false, apart := false, narrowed := true }
def DiskCrashUptoSaid : Prop := diskCrashUptoRow.holds Try.pinned (OpenSpec.upto diskCrashSpec)

/-- 'stillwaterlaw.FrameReads', WHERE WHAT IT READS IS OF BULK AT MOST 1048576: true; the input reads as it did. -/
def frameReadsUptoRow : OpenClaim := { program := "yteckohdbfkhmdaa", sum := "9f15417d0a2d678fdc168ddc0cf0a19a97ddee754f05c51c5f065e85b658b8b5", func := "stillwater/stillwaterlaw.FrameReads", spec := "frameReads", unfollowed := true, recurses := true, plainKeys := false, apart := false, narrowed := true }
def FrameReadsUptoSaid : Prop := frameReadsUptoRow.holds Try.pinned (OpenSpec.upto frameReadsSpec)

/-- 'stillwaterlaw.FrameTorn', WHERE WHAT IT READS IS OF BULK AT MOST 1048576: true; the input reads as it did. -/
def frameTornUptoRow : OpenClaim := { program := "yteckohdbfkhmdaa", sum := "9f15417d0a2d678fdc168ddc0cf0a19a97ddee754f05c51c5f065e85b658b8b5", func := "stillwater/stillwaterlaw.FrameTorn", spec := "frameTorn", unfollowed := true, recurses := true, plainKeys := false, apart := false, narrowed := true }
def FrameTornUptoSaid : Prop := frameTornUptoRow.holds Try.pinned (OpenSpec.upto frameTornSpec)

/-- 'stillwaterlaw.TreeSays', WHERE WHAT IT READS IS OF BULK AT MOST 1048576: true; the input reads as it did. -/
def treeSaysUptoRow : OpenClaim := { program := "yteckohdbfkhmdaa", sum := "9f15417d0a2d678fdc168ddc0cf0a19a97ddee754f05c51c5f065e85b658b8b5", func := "stillwater/stillwaterlaw.TreeSays", spec := "treeSays", unfollowed := true, recurses := true, plainKeys := false, apart := false, narrowed := true }
def TreeSaysUptoSaid : Prop := treeSaysUptoRow.holds Try.pinned (OpenSpec.upto treeSaysSpec)

/-- 'stillwaterlaw.PlanApplies', WHERE WHAT IT READS IS OF BULK AT MOST 1048576: true; the input reads as it did. -/
def planAppliesUptoRow : OpenClaim := { program := "yteckohdbfkhmdaa", sum := "9f15417d0a2d678fdc168ddc0cf0a19a97ddee754f05c51c5f065e85b658b8b5", func := "stillwater/stillwaterlaw.PlanApplies", spec := "planApplies", plainKeys := false, apart := false, narrowed := true }
def PlanAppliesUptoSaid : Prop := planAppliesUptoRow.holds Try.pinned (OpenSpec.upto planAppliesSpec)

/-- 'stillwaterlaw.TreeDiffs', WHERE WHAT IT READS IS OF BULK AT MOST 1048576: true; the input reads as it did. -/
def treeDiffsUptoRow : OpenClaim := { program := "yteckohdbfkhmdaa", sum := "9f15417d0a2d678fdc168ddc0cf0a19a97ddee754f05c51c5f065e85b658b8b5", func := "stillwater/stillwaterlaw.TreeDiffs", spec := "treeDiffs", unfollowed := true, recurses := true, plainKeys := false, apart := false, narrowed := true }
def TreeDiffsUptoSaid : Prop := treeDiffsUptoRow.holds Try.pinned (OpenSpec.upto treeDiffsSpec)

/-- 'stillwaterlaw.TreePuts', WHERE WHAT IT READS IS OF BULK AT MOST 1048576: true; the input reads as it did. -/
def treePutsUptoRow : OpenClaim := { program := "yteckohdbfkhmdaa", sum := "9f15417d0a2d678fdc168ddc0cf0a19a97ddee754f05c51c5f065e85b658b8b5", func := "stillwater/stillwaterlaw.TreePuts", spec := "treePuts", unfollowed := true, recurses := true, plainKeys := false, apart := false, narrowed := true }
def TreePutsUptoSaid : Prop := treePutsUptoRow.holds Try.pinned (OpenSpec.upto treePutsSpec)

/-- 'stillwatertop.TopDiff', WHERE WHAT IT READS IS OF BULK AT MOST 1048576: true; the input reads as it did. -/
def topDiffUptoRow : OpenClaim := { program := "yteckohdbfkhmdaa", sum := "9f15417d0a2d678fdc168ddc0cf0a19a97ddee754f05c51c5f065e85b658b8b5", func := "stillwater/stillwatertop.TopDiff", spec := "topDiff", unfollowed := true, recurses := true, plainKeys := false, apart := false, narrowed := true }
def TopDiffUptoSaid : Prop := topDiffUptoRow.holds Try.pinned (OpenSpec.upto topDiffSpec)

/-- 'stillwaterlaw.DiskSays', WHERE WHAT IT READS IS OF BULK AT MOST 1048576: true; the input reads as it did. -/
def diskSaysUptoRow : OpenClaim := { program := "yteckohdbfkhmdaa", sum := "9f15417d0a2d678fdc168ddc0cf0a19a97ddee754f05c51c5f065e85b658b8b5", func := "stillwater/stillwaterlaw.DiskSays", spec := "diskSays", unfollowed := true, recurses := true, plainKeys := false, apart := false, narrowed := true }
def DiskSaysUptoSaid : Prop := diskSaysUptoRow.holds Try.pinned (OpenSpec.upto diskSaysSpec)

/-- 'stillwaterlaw.PlanSays', WHERE WHAT IT READS IS OF BULK AT MOST 1048576: true; the input reads as it did. -/
def planSaysUptoRow : OpenClaim := { program := "yteckohdbfkhmdaa", sum := "9f15417d0a2d678fdc168ddc0cf0a19a97ddee754f05c51c5f065e85b658b8b5", func := "stillwater/stillwaterlaw.PlanSays", spec := "planSays", unfollowed := true, recurses := true, plainKeys := false, apart := false, narrowed := true }
def PlanSaysUptoSaid : Prop := planSaysUptoRow.holds Try.pinned (OpenSpec.upto planSaysSpec)

end Rows
end Go.Proofs.Yteckohdbfkhmdaa
