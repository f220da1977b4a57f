/-
  No cell of these rows narrows 'for every input' (looked for: loops, veiled, ifaces, maps, wideKeys, modest, calm, conditions, laid).
  DERIVED. THE GIVEN ROWS OF THIS SEAT. 5 by the template 'for every input the law returns true; each argument reads behind the call as it read before'; 0 by the template 'total and deterministic' (their statements: YteckohdbfkhmdacTotals.lean).
  GIVEN WITH THE SEED: the statements are not yours to turn. If you find one false, say at which input.
  Laid BY PROGRAM, IN A SANDBOX (cutbox-rows.mjs): the forced cells as the released guide's own fill.sh prints them over the translation a906ebc4bfc8df3a… (all of the seat's roots in one cut). By AI agents, Wed Nov 11 2026. No macro, syntax, notation, axiom, sorry.
-/
import Derived.Test.YteckohdbfkhmdacChecked
import GoSem.Claim
import GoSem.ClaimJoined
import GoSem.ClaimMapViews
import Derived.JoinedTies
import Derived.KernelRfl
namespace Go.Proofs.Yteckohdbfkhmdac
/- THE CELL 'sum', in the pinned program and in every row, IS THE sha256 OF THE DUMP (.gsa) THAT YteckohdbfkhmdacProg.lean LOADS. Nothing in Lean hashes anything: it is a label: what it is worth is what the hold of that sum in a sandbox is worth. -/
noncomputable def Try.pinned : Pinned := { name := "yteckohdbfkhmdac", sum := "a906ebc4bfc8df3a57e9d800d768a451769ba6ca003eb5378604a7ff3caba2eb", checked := Try.checked }
namespace Rows
def none {H : Type} : Left H := { results := [], args := [] }

/-- 'stillwatertop.TopPlan': WHATEVER THE INPUT: true; the input reads as it did. -/
def topPlanSpec : ChangeSpec := { name := "topPlan", fn := fun _ => fun
  | [d1, d2, d3, d4] => { results := [.lit (.bool true)], args := [d1, d2, d3, d4] }
  | _ => none }
def topPlanRow : OpenClaim := { program := "yteckohdbfkhmdac", sum := "a906ebc4bfc8df3a57e9d800d768a451769ba6ca003eb5378604a7ff3caba2eb", func := "stillwater/stillwatertop.TopPlan", spec := "topPlan", unfollowed := true, recurses := true, plainKeys := false, apart := false }
def TopPlanSaid : Prop := topPlanRow.holds Try.pinned (OpenSpec.ofChange topPlanSpec)

/-- ITS FALSE NEIGHBOUR: 'it returns false'. Refute it at one input. -/
def topPlanWrong : ChangeSpec := { name := "topPlan", fn := fun _ => fun
  | [d1, d2, d3, d4] => { results := [.lit (.bool false)], args := [d1, d2, d3, d4] }
  | _ => none }
def TopPlanWrongFalsely : Prop := topPlanRow.holds Try.pinned (OpenSpec.ofChange topPlanWrong)

/-- 'stillwatertop.TopHad': WHATEVER THE INPUT: true; the input reads as it did. -/
def topHadSpec : ChangeSpec := { name := "topHad", fn := fun _ => fun
  | [d1, d2, d3, d4] => { results := [.lit (.bool true)], args := [d1, d2, d3, d4] }
  | _ => none }
def topHadRow : OpenClaim := { program := "yteckohdbfkhmdac", sum := "a906ebc4bfc8df3a57e9d800d768a451769ba6ca003eb5378604a7ff3caba2eb", func := "stillwater/stillwatertop.TopHad", spec := "topHad", unfollowed := true, recurses := true, plainKeys := false, apart := false }
def TopHadSaid : Prop := topHadRow.holds Try.pinned (OpenSpec.ofChange topHadSpec)

/-- ITS FALSE NEIGHBOUR: 'it returns false'. Refute it at one input. -/
def topHadWrong : ChangeSpec := { name := "topHad", fn := fun _ => fun
  | [d1, d2, d3, d4] => { results := [.lit (.bool false)], args := [d1, d2, d3, d4] }
  | _ => none }
def TopHadWrongFalsely : Prop := topHadRow.holds Try.pinned (OpenSpec.ofChange topHadWrong)

/-- 'stillwatertop.TopLine': WHATEVER THE INPUT: true; the input reads as it did. -/
def topLineSpec : ChangeSpec := { name := "topLine", fn := fun _ => fun
  | [d1, d2, d3] => { results := [.lit (.bool true)], args := [d1, d2, d3] }
  | _ => none }
def topLineRow : OpenClaim := { program := "yteckohdbfkhmdac", sum := "a906ebc4bfc8df3a57e9d800d768a451769ba6ca003eb5378604a7ff3caba2eb", func := "stillwater/stillwatertop.TopLine", spec := "topLine", unfollowed := true, recurses := true, plainKeys := false, apart := false }
def TopLineSaid : Prop := topLineRow.holds Try.pinned (OpenSpec.ofChange topLineSpec)

/-- ITS FALSE NEIGHBOUR: 'it returns false'. Refute it at one input. -/
def topLineWrong : ChangeSpec := { name := "topLine", fn := fun _ => fun
  | [d1, d2, d3] => { results := [.lit (.bool false)], args := [d1, d2, d3] }
  | _ => none }
def TopLineWrongFalsely : Prop := topLineRow.holds Try.pinned (OpenSpec.ofChange topLineWrong)

/-- 'stillwatertop.TopEpoch': WHATEVER THE INPUT: true; the input reads as it did. -/
def topEpochSpec : ChangeSpec := { name := "topEpoch", fn := fun _ => fun
  | [d1, d2, d3, d4, d5] => { results := [.lit (.bool true)], args := [d1, d2, d3, d4, d5] }
  | _ => none }
def topEpochRow : OpenClaim := { program := "yteckohdbfkhmdac", sum := "a906ebc4bfc8df3a57e9d800d768a451769ba6ca003eb5378604a7ff3caba2eb", func := "stillwater/stillwatertop.TopEpoch", spec := "topEpoch", inPlace := ["slices.overlaps[stillwater/api.Put]"], unfollowed := true, recurses := true, plainKeys := false, apart := false }
def TopEpochSaid : Prop := topEpochRow.holds Try.pinned (OpenSpec.ofChange topEpochSpec)

/-- ITS FALSE NEIGHBOUR: 'it returns false'. Refute it at one input. -/
def topEpochWrong : ChangeSpec := { name := "topEpoch", fn := fun _ => fun
  | [d1, d2, d3, d4, d5] => { results := [.lit (.bool false)], args := [d1, d2, d3, d4, d5] }
  | _ => none }
def TopEpochWrongFalsely : Prop := topEpochRow.holds Try.pinned (OpenSpec.ofChange topEpochWrong)

/-- 'stillwatertop.TopAtomic': WHATEVER THE INPUT: true; the input reads as it did. -/
def topAtomicSpec : ChangeSpec := { name := "topAtomic", fn := fun _ => fun
  | [d1, d2, d3, d4] => { results := [.lit (.bool true)], args := [d1, d2, d3, d4] }
  | _ => none }
def topAtomicRow : OpenClaim := { program := "yteckohdbfkhmdac", sum := "a906ebc4bfc8df3a57e9d800d768a451769ba6ca003eb5378604a7ff3caba2eb", func := "stillwater/stillwatertop.TopAtomic", spec := "topAtomic", unfollowed := true, recurses := true, plainKeys := false, apart := false }
def TopAtomicSaid : Prop := topAtomicRow.holds Try.pinned (OpenSpec.ofChange topAtomicSpec)

/-- ITS FALSE NEIGHBOUR: 'it returns false'. Refute it at one input. -/
def topAtomicWrong : ChangeSpec := { name := "topAtomic", fn := fun _ => fun
  | [d1, d2, d3, d4] => { results := [.lit (.bool false)], args := [d1, d2, d3, d4] }
  | _ => none }
def TopAtomicWrongFalsely : Prop := topAtomicRow.holds Try.pinned (OpenSpec.ofChange topAtomicWrong)

/- THE SECOND FORM. 'bulk': how many values and letters a reading holds, each counted each time it is reached (what is shared counts as often as it is met; a slice's spare places count too). A statement '..UptoSaid' is the law's where the arguments, and the package variables that the reading takes, are together of bulk at most 1048576: NARROWER than '..Said'. Prove '..Said' where nothing that the law and all that it calls make is longer than what came in: it says more and counts as full. Else prove '..UptoSaid'. A law counts once. -/
mutual
def uptoBulk {H : Type} : DataW H → Nat
  | .lit (.string bytes) => bytes.length + 1
  | .lit _ => 1
  | .nil => 1
  | .ptr d => uptoBulk d + 1
  | .slice elems spare => uptoBulkAll elems + uptoBulkAll spare + 1
  | .agg parts => uptoBulkAll parts + 1
  | .iface _ d => uptoBulk d + 1
  | .map entries => uptoBulkEntries entries + 1
  | .held _ => 1
def uptoBulkAll {H : Type} : List (DataW H) → Nat
  | [] => 0
  | d :: r => uptoBulk d + uptoBulkAll r
def uptoBulkEntries {H : Type} : List (Lit × DataW H) → Nat
  | [] => 0
  | x :: r => uptoBulkEntry x + uptoBulkEntries r
def uptoBulkEntry {H : Type} : Lit × DataW H → Nat
  | (.string bytes, d) => bytes.length + uptoBulk d + 1
  | (_, d) => uptoBulk d + 1
 end
def uptoSmall : (H : Type) → List (DataW H) → Bool := fun _ ds => decide (uptoBulkAll ds ≤ 1048576)
def OpenSpec.upto (s : _root_.Go.ChangeSpec) : _root_.Go.OpenSpec := { _root_.Go.OpenSpec.ofChange s with cond := some uptoSmall }

/-- 'stillwatertop.TopPlan', WHERE WHAT IT READS IS OF BULK AT MOST 1048576: true; the input reads as it did. -/
def topPlanUptoRow : OpenClaim := { program := "yteckohdbfkhmdac", sum := "a906ebc4bfc8df3a57e9d800d768a451769ba6ca003eb5378604a7ff3caba2eb", func := "stillwater/stillwatertop.TopPlan", spec := "topPlan", unfollowed := true, recurses := true, plainKeys := false, apart := false, narrowed := true }
def TopPlanUptoSaid : Prop := topPlanUptoRow.holds Try.pinned (OpenSpec.upto topPlanSpec)

/-- 'stillwatertop.TopHad', WHERE WHAT IT READS IS OF BULK AT MOST 1048576: true; the input reads as it did. -/
def topHadUptoRow : OpenClaim := { program := "yteckohdbfkhmdac", sum := "a906ebc4bfc8df3a57e9d800d768a451769ba6ca003eb5378604a7ff3caba2eb", func := "stillwater/stillwatertop.TopHad", spec := "topHad", unfollowed := true, recurses := true, plainKeys := false, apart := false, narrowed := true }
def TopHadUptoSaid : Prop := topHadUptoRow.holds Try.pinned (OpenSpec.upto topHadSpec)

/-- 'stillwatertop.TopLine', WHERE WHAT IT READS IS OF BULK AT MOST 1048576: true; the input reads as it did. -/
def topLineUptoRow : OpenClaim := { program := "yteckohdbfkhmdac", sum := "a906ebc4bfc8df3a57e9d800d768a451769ba6ca003eb5378604a7ff3caba2eb", func := "stillwater/stillwatertop.TopLine", spec := "topLine", unfollowed := true, recurses := true, plainKeys := false, apart := false, narrowed := true }
def TopLineUptoSaid : Prop := topLineUptoRow.holds Try.pinned (OpenSpec.upto topLineSpec)

/-- 'stillwatertop.TopEpoch', WHERE WHAT IT READS IS OF BULK AT MOST 1048576: true; the input reads as it did. -/
def topEpochUptoRow : OpenClaim := { program := "yteckohdbfkhmdac", sum := "a906ebc4bfc8df3a57e9d800d768a451769ba6ca003eb5378604a7ff3caba2eb", func := "stillwater/stillwatertop.TopEpoch", spec := "topEpoch", inPlace := ["slices.overlaps[stillwater/api.Put]"], unfollowed := true, recurses := true, plainKeys := false, apart := false, narrowed := true }
def TopEpochUptoSaid : Prop := topEpochUptoRow.holds Try.pinned (OpenSpec.upto topEpochSpec)

/-- 'stillwatertop.TopAtomic', WHERE WHAT IT READS IS OF BULK AT MOST 1048576: true; the input reads as it did. -/
def topAtomicUptoRow : OpenClaim := { program := "yteckohdbfkhmdac", sum := "a906ebc4bfc8df3a57e9d800d768a451769ba6ca003eb5378604a7ff3caba2eb", func := "stillwater/stillwatertop.TopAtomic", spec := "topAtomic", unfollowed := true, recurses := true, plainKeys := false, apart := false, narrowed := true }
def TopAtomicUptoSaid : Prop := topAtomicUptoRow.holds Try.pinned (OpenSpec.upto topAtomicSpec)

end Rows
end Go.Proofs.Yteckohdbfkhmdac
