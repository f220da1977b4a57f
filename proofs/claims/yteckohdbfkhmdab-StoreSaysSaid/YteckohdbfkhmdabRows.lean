/-
  No cell of these rows narrows 'for every input' (looked for: loops, veiled, ifaces, maps, wideKeys, modest, calm, conditions, laid).
  DERIVED. THE GIVEN ROWS OF THIS SEAT. 10 by the template 'for every input the law returns true; each argument reads behind the call as it read before'; 0 by the template 'total and deterministic' (their statements: YteckohdbfkhmdabTotals.lean).
  GIVEN WITH THE SEED: the statements are not yours to turn. If you find one false, say at which input.
  Laid BY PROGRAM, IN A SANDBOX (cutbox-rows.mjs): the forced cells as the released guide's own fill.sh prints them over the translation 0de4611ccc5900a8… (all of the seat's roots in one cut). By AI agents, Wed Nov 11 2026. No macro, syntax, notation, axiom, sorry.
-/
import Derived.Test.YteckohdbfkhmdabChecked
import GoSem.Claim
import GoSem.ClaimJoined
import GoSem.ClaimMapViews
import Derived.JoinedTies
import Derived.KernelRfl
namespace Go.Proofs.Yteckohdbfkhmdab
/- THE CELL 'sum', in the pinned program and in every row, IS THE sha256 OF THE DUMP (.gsa) THAT YteckohdbfkhmdabProg.lean LOADS. Nothing in Lean hashes anything: it is a label: what it is worth is what the hold of that sum in a sandbox is worth. -/
noncomputable def Try.pinned : Pinned := { name := "yteckohdbfkhmdab", sum := "0de4611ccc5900a82d50f32a9cccf4a2700fe5bf90be5e502ecbf4b25faa09b8", checked := Try.checked }
namespace Rows
def none {H : Type} : Left H := { results := [], args := [] }

/-- 'stillwaterlaw.LinkSays': WHATEVER THE INPUT: true; the input reads as it did. -/
def linkSaysSpec : ChangeSpec := { name := "linkSays", fn := fun _ => fun
  | [d1, d2] => { results := [.lit (.bool true)], args := [d1, d2] }
  | _ => none }
def linkSaysRow : OpenClaim := { program := "yteckohdbfkhmdab", sum := "0de4611ccc5900a82d50f32a9cccf4a2700fe5bf90be5e502ecbf4b25faa09b8", func := "stillwater/stillwaterlaw.LinkSays", spec := "linkSays", unfollowed := true, recurses := true, plainKeys := false, apart := false }
def LinkSaysSaid : Prop := linkSaysRow.holds Try.pinned (OpenSpec.ofChange linkSaysSpec)

/-- ITS FALSE NEIGHBOUR: 'it returns false'. Refute it at one input. -/
def linkSaysWrong : ChangeSpec := { name := "linkSays", fn := fun _ => fun
  | [d1, d2] => { results := [.lit (.bool false)], args := [d1, d2] }
  | _ => none }
def LinkSaysWrongFalsely : Prop := linkSaysRow.holds Try.pinned (OpenSpec.ofChange linkSaysWrong)

/-- 'stillwatertop.TopTree': WHATEVER THE INPUT: true; the input reads as it did. -/
def topTreeSpec : ChangeSpec := { name := "topTree", fn := fun _ => fun
  | [d1, d2, d3] => { results := [.lit (.bool true)], args := [d1, d2, d3] }
  | _ => none }
def topTreeRow : OpenClaim := { program := "yteckohdbfkhmdab", sum := "0de4611ccc5900a82d50f32a9cccf4a2700fe5bf90be5e502ecbf4b25faa09b8", func := "stillwater/stillwatertop.TopTree", spec := "topTree", unfollowed := true, recurses := true, plainKeys := false, apart := false }
def TopTreeSaid : Prop := topTreeRow.holds Try.pinned (OpenSpec.ofChange topTreeSpec)

/-- ITS FALSE NEIGHBOUR: 'it returns false'. Refute it at one input. -/
def topTreeWrong : ChangeSpec := { name := "topTree", fn := fun _ => fun
  | [d1, d2, d3] => { results := [.lit (.bool false)], args := [d1, d2, d3] }
  | _ => none }
def TopTreeWrongFalsely : Prop := topTreeRow.holds Try.pinned (OpenSpec.ofChange topTreeWrong)

/-- 'stillwaterlaw.TreeMade': WHATEVER THE INPUT: true; the input reads as it did. -/
def treeMadeSpec : ChangeSpec := { name := "treeMade", fn := fun _ => fun
  | [d1, d2, d3, d4] => { results := [.lit (.bool true)], args := [d1, d2, d3, d4] }
  | _ => none }
def treeMadeRow : OpenClaim := { program := "yteckohdbfkhmdab", sum := "0de4611ccc5900a82d50f32a9cccf4a2700fe5bf90be5e502ecbf4b25faa09b8", func := "stillwater/stillwaterlaw.TreeMade", spec := "treeMade", unfollowed := true, recurses := true, plainKeys := false, apart := false }
def TreeMadeSaid : Prop := treeMadeRow.holds Try.pinned (OpenSpec.ofChange treeMadeSpec)

/-- ITS FALSE NEIGHBOUR: 'it returns false'. Refute it at one input. -/
def treeMadeWrong : ChangeSpec := { name := "treeMade", fn := fun _ => fun
  | [d1, d2, d3, d4] => { results := [.lit (.bool false)], args := [d1, d2, d3, d4] }
  | _ => none }
def TreeMadeWrongFalsely : Prop := treeMadeRow.holds Try.pinned (OpenSpec.ofChange treeMadeWrong)

/-- 'stillwaterlaw.LinkHears': WHATEVER THE INPUT: true; the input reads as it did. -/
def linkHearsSpec : ChangeSpec := { name := "linkHears", fn := fun _ => fun
  | [d1, d2, d3] => { results := [.lit (.bool true)], args := [d1, d2, d3] }
  | _ => none }
def linkHearsRow : OpenClaim := { program := "yteckohdbfkhmdab", sum := "0de4611ccc5900a82d50f32a9cccf4a2700fe5bf90be5e502ecbf4b25faa09b8", func := "stillwater/stillwaterlaw.LinkHears", spec := "linkHears", unfollowed := true, recurses := true, plainKeys := false, apart := false }
def LinkHearsSaid : Prop := linkHearsRow.holds Try.pinned (OpenSpec.ofChange linkHearsSpec)

/-- ITS FALSE NEIGHBOUR: 'it returns false'. Refute it at one input. -/
def linkHearsWrong : ChangeSpec := { name := "linkHears", fn := fun _ => fun
  | [d1, d2, d3] => { results := [.lit (.bool false)], args := [d1, d2, d3] }
  | _ => none }
def LinkHearsWrongFalsely : Prop := linkHearsRow.holds Try.pinned (OpenSpec.ofChange linkHearsWrong)

/-- 'stillwaterlaw.CacheSays': WHATEVER THE INPUT: true; the input reads as it did. -/
def cacheSaysSpec : ChangeSpec := { name := "cacheSays", fn := fun _ => fun
  | [d1, d2, d3] => { results := [.lit (.bool true)], args := [d1, d2, d3] }
  | _ => none }
def cacheSaysRow : OpenClaim := { program := "yteckohdbfkhmdab", sum := "0de4611ccc5900a82d50f32a9cccf4a2700fe5bf90be5e502ecbf4b25faa09b8", func := "stillwater/stillwaterlaw.CacheSays", spec := "cacheSays", inPlace := ["slices.overlaps[int]"], unfollowed := true, recurses := true, plainKeys := false, apart := false }
def CacheSaysSaid : Prop := cacheSaysRow.holds Try.pinned (OpenSpec.ofChange cacheSaysSpec)

/-- ITS FALSE NEIGHBOUR: 'it returns false'. Refute it at one input. -/
def cacheSaysWrong : ChangeSpec := { name := "cacheSays", fn := fun _ => fun
  | [d1, d2, d3] => { results := [.lit (.bool false)], args := [d1, d2, d3] }
  | _ => none }
def CacheSaysWrongFalsely : Prop := cacheSaysRow.holds Try.pinned (OpenSpec.ofChange cacheSaysWrong)

/-- 'stillwatertop.TopFrame': WHATEVER THE INPUT: true; the input reads as it did. -/
def topFrameSpec : ChangeSpec := { name := "topFrame", fn := fun _ => fun
  | [d1, d2, d3] => { results := [.lit (.bool true)], args := [d1, d2, d3] }
  | _ => none }
def topFrameRow : OpenClaim := { program := "yteckohdbfkhmdab", sum := "0de4611ccc5900a82d50f32a9cccf4a2700fe5bf90be5e502ecbf4b25faa09b8", func := "stillwater/stillwatertop.TopFrame", spec := "topFrame", unfollowed := true, recurses := true, plainKeys := false, apart := false }
def TopFrameSaid : Prop := topFrameRow.holds Try.pinned (OpenSpec.ofChange topFrameSpec)

/-- ITS FALSE NEIGHBOUR: 'it returns false'. Refute it at one input. -/
def topFrameWrong : ChangeSpec := { name := "topFrame", fn := fun _ => fun
  | [d1, d2, d3] => { results := [.lit (.bool false)], args := [d1, d2, d3] }
  | _ => none }
def TopFrameWrongFalsely : Prop := topFrameRow.holds Try.pinned (OpenSpec.ofChange topFrameWrong)

/-- 'stillwaterlaw.LinkMade': WHATEVER THE INPUT: true; the input reads as it did. -/
def linkMadeSpec : ChangeSpec := { name := "linkMade", fn := fun _ => fun
  | [d1, d2, d3, d4] => { results := [.lit (.bool true)], args := [d1, d2, d3, d4] }
  | _ => none }
def linkMadeRow : OpenClaim := { program := "yteckohdbfkhmdab", sum := "0de4611ccc5900a82d50f32a9cccf4a2700fe5bf90be5e502ecbf4b25faa09b8", func := "stillwater/stillwaterlaw.LinkMade", spec := "linkMade", unfollowed := true, recurses := true, plainKeys := false, apart := false }
def LinkMadeSaid : Prop := linkMadeRow.holds Try.pinned (OpenSpec.ofChange linkMadeSpec)

/-- ITS FALSE NEIGHBOUR: 'it returns false'. Refute it at one input. -/
def linkMadeWrong : ChangeSpec := { name := "linkMade", fn := fun _ => fun
  | [d1, d2, d3, d4] => { results := [.lit (.bool false)], args := [d1, d2, d3, d4] }
  | _ => none }
def LinkMadeWrongFalsely : Prop := linkMadeRow.holds Try.pinned (OpenSpec.ofChange linkMadeWrong)

/-- 'stillwaterlaw.StoreSays': WHATEVER THE INPUT: true; the input reads as it did. -/
def storeSaysSpec : ChangeSpec := { name := "storeSays", fn := fun _ => fun
  | [d1, d2, d3, d4, d5] => { results := [.lit (.bool true)], args := [d1, d2, d3, d4, d5] }
  | _ => none }
def storeSaysRow : OpenClaim := { program := "yteckohdbfkhmdab", sum := "0de4611ccc5900a82d50f32a9cccf4a2700fe5bf90be5e502ecbf4b25faa09b8", func := "stillwater/stillwaterlaw.StoreSays", spec := "storeSays", unfollowed := true, recurses := true, plainKeys := false, apart := false }
def StoreSaysSaid : Prop := storeSaysRow.holds Try.pinned (OpenSpec.ofChange storeSaysSpec)

/-- ITS FALSE NEIGHBOUR: 'it returns false'. Refute it at one input. -/
def storeSaysWrong : ChangeSpec := { name := "storeSays", fn := fun _ => fun
  | [d1, d2, d3, d4, d5] => { results := [.lit (.bool false)], args := [d1, d2, d3, d4, d5] }
  | _ => none }
def StoreSaysWrongFalsely : Prop := storeSaysRow.holds Try.pinned (OpenSpec.ofChange storeSaysWrong)

/-- 'stillwaterlaw.EpochSays': WHATEVER THE INPUT: true; the input reads as it did. -/
def epochSaysSpec : ChangeSpec := { name := "epochSays", fn := fun _ => fun
  | [d1, d2, d3, d4] => { results := [.lit (.bool true)], args := [d1, d2, d3, d4] }
  | _ => none }
def epochSaysRow : OpenClaim := { program := "yteckohdbfkhmdab", sum := "0de4611ccc5900a82d50f32a9cccf4a2700fe5bf90be5e502ecbf4b25faa09b8", func := "stillwater/stillwaterlaw.EpochSays", spec := "epochSays", inPlace := ["slices.overlaps[stillwater/api.Put]"], unfollowed := true, recurses := true, plainKeys := false, apart := false }
def EpochSaysSaid : Prop := epochSaysRow.holds Try.pinned (OpenSpec.ofChange epochSaysSpec)

/-- ITS FALSE NEIGHBOUR: 'it returns false'. Refute it at one input. -/
def epochSaysWrong : ChangeSpec := { name := "epochSays", fn := fun _ => fun
  | [d1, d2, d3, d4] => { results := [.lit (.bool false)], args := [d1, d2, d3, d4] }
  | _ => none }
def EpochSaysWrongFalsely : Prop := epochSaysRow.holds Try.pinned (OpenSpec.ofChange epochSaysWrong)

/-- 'stillwaterlaw.EpochMade': WHATEVER THE INPUT: true; the input reads as it did. -/
def epochMadeSpec : ChangeSpec := { name := "epochMade", fn := fun _ => fun
  | [d1, d2, d3, d4] => { results := [.lit (.bool true)], args := [d1, d2, d3, d4] }
  | _ => none }
def epochMadeRow : OpenClaim := { program := "yteckohdbfkhmdab", sum := "0de4611ccc5900a82d50f32a9cccf4a2700fe5bf90be5e502ecbf4b25faa09b8", func := "stillwater/stillwaterlaw.EpochMade", spec := "epochMade", inPlace := ["slices.overlaps[stillwater/api.Put]"], unfollowed := true, recurses := true, plainKeys := false, apart := false }
def EpochMadeSaid : Prop := epochMadeRow.holds Try.pinned (OpenSpec.ofChange epochMadeSpec)

/-- ITS FALSE NEIGHBOUR: 'it returns false'. Refute it at one input. -/
def epochMadeWrong : ChangeSpec := { name := "epochMade", fn := fun _ => fun
  | [d1, d2, d3, d4] => { results := [.lit (.bool false)], args := [d1, d2, d3, d4] }
  | _ => none }
def EpochMadeWrongFalsely : Prop := epochMadeRow.holds Try.pinned (OpenSpec.ofChange epochMadeWrong)

/- THE SECOND FORM. 'bulk': how many values and letters a reading holds, each counted each time it is reached (what is shared counts as often as it is met; a slice's spare places count too). A statement '..UptoSaid' is the law's where the arguments, and the package variables that the reading takes, are together of bulk at most 1048576: NARROWER than '..Said'. Prove '..Said' where nothing that the law and all that it calls make is longer than what came in: it says more and counts as full. Else prove '..UptoSaid'. A law counts once. -/
mutual
def uptoBulk {H : Type} : DataW H → Nat
  | .lit (.string bytes) => bytes.length + 1
  | .lit _ => 1
  | .nil => 1
  | .ptr d => uptoBulk d + 1
  | .slice elems spare => uptoBulkAll elems + uptoBulkAll spare + 1
  | .agg parts => uptoBulkAll parts + 1
  | .iface _ d => uptoBulk d + 1
  | .map entries => uptoBulkEntries entries + 1
  | .held _ => 1
def uptoBulkAll {H : Type} : List (DataW H) → Nat
  | [] => 0
  | d :: r => uptoBulk d + uptoBulkAll r
def uptoBulkEntries {H : Type} : List (Lit × DataW H) → Nat
  | [] => 0
  | x :: r => uptoBulkEntry x + uptoBulkEntries r
def uptoBulkEntry {H : Type} : Lit × DataW H → Nat
  | (.string bytes, d) => bytes.length + uptoBulk d + 1
  | (_, d) => uptoBulk d + 1
 end
def uptoSmall : (H : Type) → List (DataW H) → Bool := fun _ ds => decide (uptoBulkAll ds ≤ 1048576)
def OpenSpec.upto (s : _root_.Go.ChangeSpec) : _root_.Go.OpenSpec := { _root_.Go.OpenSpec.ofChange s with cond := some uptoSmall }

/-- 'stillwaterlaw.LinkSays', WHERE WHAT IT READS IS OF BULK AT MOST 1048576: true; the input reads as it did. -/
def linkSaysUptoRow : OpenClaim := { program := "yteckohdbfkhmdab", sum := "0de4611ccc5900a82d50f32a9cccf4a2700fe5bf90be5e502ecbf4b25faa09b8", func := "stillwater/stillwaterlaw.LinkSays", spec := "linkSays", unfollowed := true, recurses := true, plainKeys := false, apart := false, narrowed := true }
def LinkSaysUptoSaid : Prop := linkSaysUptoRow.holds Try.pinned (OpenSpec.upto linkSaysSpec)

/-- 'stillwatertop.TopTree', WHERE WHAT IT READS IS OF BULK AT MOST 1048576: true; the input reads as it did. -/
def topTreeUptoRow : OpenClaim := { program := "yteckohdbfkhmdab", sum := "0de4611ccc5900a82d50f32a9cccf4a2700fe5bf90be5e502ecbf4b25faa09b8", func := "stillwater/stillwatertop.TopTree", spec := "topTree", unfollowed := true, recurses := true, plainKeys := false, apart := false, narrowed := true }
def TopTreeUptoSaid : Prop := topTreeUptoRow.holds Try.pinned (OpenSpec.upto topTreeSpec)

/-- 'stillwaterlaw.TreeMade', WHERE WHAT IT READS IS OF BULK AT MOST 1048576: true; the input reads as it did. -/
def treeMadeUptoRow : OpenClaim := { program := "yteckohdbfkhmdab", sum := "0de4611ccc5900a82d50f32a9cccf4a2700fe5bf90be5e502ecbf4b25faa09b8", func := "stillwater/stillwaterlaw.TreeMade", spec := "treeMade", unfollowed := true, recurses := true, plainKeys := false, apart := false, narrowed := true }
def TreeMadeUptoSaid : Prop := treeMadeUptoRow.holds Try.pinned (OpenSpec.upto treeMadeSpec)

/-- 'stillwaterlaw.LinkHears', WHERE WHAT IT READS IS OF BULK AT MOST 1048576: true; the input reads as it did. -/
def linkHearsUptoRow : OpenClaim := { program := "yteckohdbfkhmdab", sum := "0de4611ccc5900a82d50f32a9cccf4a2700fe5bf90be5e502ecbf4b25faa09b8", func := "stillwater/stillwaterlaw.LinkHears", spec := "linkHears", unfollowed := true, recurses := true, plainKeys := false, apart := false, narrowed := true }
def LinkHearsUptoSaid : Prop := linkHearsUptoRow.holds Try.pinned (OpenSpec.upto linkHearsSpec)

/-- 'stillwaterlaw.CacheSays', WHERE WHAT IT READS IS OF BULK AT MOST 1048576: true; the input reads as it did. -/
def cacheSaysUptoRow : OpenClaim := { program := "yteckohdbfkhmdab", sum := "0de4611ccc5900a82d50f32a9cccf4a2700fe5bf90be5e502ecbf4b25faa09b8", func := "stillwater/stillwaterlaw.CacheSays", spec := "cacheSays", inPlace := ["slices.overlaps[int]"], unfollowed := true, recurses := true, plainKeys := false, apart := false, narrowed := true }
def CacheSaysUptoSaid : Prop := cacheSaysUptoRow.holds Try.pinned (OpenSpec.upto cacheSaysSpec)

/-- 'stillwatertop.TopFrame', WHERE WHAT IT READS IS OF BULK AT MOST 1048576: true; the input reads as it did. -/
def topFrameUptoRow : OpenClaim := { program := "yteckohdbfkhmdab", sum := "0de4611ccc5900a82d50f32a9cccf4a2700fe5bf90be5e502ecbf4b25faa09b8", func := "stillwater/stillwatertop.TopFrame", spec := "topFrame", unfollowed := true, recurses := true, plainKeys := false, apart := false, narrowed := true }
def TopFrameUptoSaid : Prop := topFrameUptoRow.holds Try.pinned (OpenSpec.upto topFrameSpec)

/-- 'stillwaterlaw.LinkMade', WHERE WHAT IT READS IS OF BULK AT MOST 1048576: true; the input reads as it did. -/
def linkMadeUptoRow : OpenClaim := { program := "yteckohdbfkhmdab", sum := "0de4611ccc5900a82d50f32a9cccf4a2700fe5bf90be5e502ecbf4b25faa09b8", func := "stillwater/stillwaterlaw.LinkMade", spec := "linkMade", unfollowed := true, recurses := true, plainKeys := false, apart := false, narrowed := true }
def LinkMadeUptoSaid : Prop := linkMadeUptoRow.holds Try.pinned (OpenSpec.upto linkMadeSpec)

/-- 'stillwaterlaw.StoreSays', WHERE WHAT IT READS IS OF BULK AT MOST 1048576: true; the input reads as it did. -/
def storeSaysUptoRow : OpenClaim := { program := "yteckohdbfkhmdab", sum := "0de4611ccc5900a82d50f32a9cccf4a2700fe5bf90be5e502ecbf4b25faa09b8", func := "stillwater/stillwaterlaw.StoreSays", spec := "storeSays", unfollowed := true, recurses := true, plainKeys := false, apart := false, narrowed := true }
def StoreSaysUptoSaid : Prop := storeSaysUptoRow.holds Try.pinned (OpenSpec.upto storeSaysSpec)

/-- 'stillwaterlaw.EpochSays', WHERE WHAT IT READS IS OF BULK AT MOST 1048576: true; the input reads as it did. -/
def epochSaysUptoRow : OpenClaim := { program := "yteckohdbfkhmdab", sum := "0de4611ccc5900a82d50f32a9cccf4a2700fe5bf90be5e502ecbf4b25faa09b8", func := "stillwater/stillwaterlaw.EpochSays", spec := "epochSays", inPlace := ["slices.overlaps[stillwater/api.Put]"], unfollowed := true, recurses := true, plainKeys := false, apart := false, narrowed := true }
def EpochSaysUptoSaid : Prop := epochSaysUptoRow.holds Try.pinned (OpenSpec.upto epochSaysSpec)

/-- 'stillwaterlaw.EpochMade', WHERE WHAT IT READS IS OF BULK AT MOST 1048576: true; the input reads as it did. -/
def epochMadeUptoRow : OpenClaim := { program := "yteckohdbfkhmdab", sum := "0de4611ccc5900a82d50f32a9cccf4a2700fe5bf90be5e502ecbf4b25faa09b8", func := "stillwater/stillwaterlaw.EpochMade", spec := "epochMade", inPlace := ["slices.overlaps[stillwater/api.Put]"], unfollowed := true, recurses := true, plainKeys := false, apart := false, narrowed := true }
def EpochMadeUptoSaid : Prop := epochMadeUptoRow.holds Try.pinned (OpenSpec.upto epochMadeSpec)

end Rows
end Go.Proofs.Yteckohdbfkhmdab
