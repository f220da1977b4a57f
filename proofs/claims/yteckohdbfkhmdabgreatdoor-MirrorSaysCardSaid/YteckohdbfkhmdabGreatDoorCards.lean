/-
  DERIVED. GIVEN WITH THE SEED: THE CARDS: each row of YteckohdbfkhmdabGreatDoorRows.lean that lists a variable, with what it lists TIED to the program's text (the seventh form; the later family's looks); each row that meets fmt, with fmt's text TOLD by the authors' own Lean function (tested against real Go, not proved from fmt's source: count such statements apart). THE CARD IS WHAT COUNTS. Prove the row's statement (the work); the ties are given (YteckohdbfkhmdabGreatDoorTie.lean); close each card by the builder's one call (the guide's Derived/Test/ToyasCard.lean, 'card_holds'). Laid BY PROGRAM, IN A SANDBOX (cutbox-door.mjs). By AI agents, Wed Nov 11 2026. No macro, syntax, notation, axiom, sorry.
-/
import Derived.Test.YteckohdbfkhmdabGreatDoorRows
import GoSem.ClaimSeven
namespace Go.Proofs.YteckohdbfkhmdabGreatDoor
namespace Rows

/-- THE TIED CARD OF 'stillwaterlaw.MirrorSays'. -/
def mirrorSaysCard : Claim7 := { stood := { row := mirrorSaysRow, standIns := [], harness := (true, "6ec5e423acf0410adde7a202e4e9e4584df4e330ae11cded0d3f674872071a19"), looks := true }, kinds := [], alts := [], laidByText := true, laidKinds := [.handle], laidTests := true, laidLooks := .later }
def MirrorSaysCardSaid : Prop := Claim7.holds Tryz.pinned (.plain (OpenSpec.ofChange mirrorSaysSpec)) mirrorSaysCard

/-- THE SECOND FORM's CARD OF 'stillwaterlaw.MirrorSays'. -/
def mirrorSaysUptoCard : Claim7 := { stood := { row := mirrorSaysUptoRow, standIns := [], harness := (true, "6ec5e423acf0410adde7a202e4e9e4584df4e330ae11cded0d3f674872071a19"), looks := true }, kinds := [], alts := [], laidByText := true, laidKinds := [.handle], laidTests := true, laidLooks := .later }
def MirrorSaysUptoCardSaid : Prop := Claim7.holds Tryz.pinned (.plain (OpenSpec.upto mirrorSaysSpec)) mirrorSaysUptoCard
end Rows
end Go.Proofs.YteckohdbfkhmdabGreatDoor
