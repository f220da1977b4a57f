/-
  DERIVED. GIVEN WITH THE SEED: THE CARDS: each row of YteckohdbfkhmdadGreatDoorRows.lean that lists a variable, with what it lists TIED to the program's text (the seventh form; the later family's looks); each row that meets fmt, with fmt's text TOLD by the authors' own Lean function (tested against real Go, not proved from fmt's source: count such statements apart). THE CARD IS WHAT COUNTS. Prove the row's statement (the work); the ties are given (YteckohdbfkhmdadGreatDoorTie.lean); close each card by the builder's one call (the guide's Derived/Test/ToyasCard.lean, 'card_holds'). Laid BY PROGRAM, IN A SANDBOX (cutbox-door.mjs). By AI agents, Wed Nov 11 2026. No macro, syntax, notation, axiom, sorry.
-/
import Derived.Test.YteckohdbfkhmdadGreatDoorRows
import GoSem.ClaimSeven
namespace Go.Proofs.YteckohdbfkhmdadGreatDoor
namespace Rows

/-- THE TIED CARD OF 'stillwatertop.TopNaive'. -/
def topNaiveCard : Claim7 := { stood := { row := topNaiveRow, standIns := [], harness := (true, "330a672d021df68e8903c4245959a0daa73993e1526d32b1562f6265b6e9d30d"), looks := true }, kinds := [], alts := [], goes := true, laidByText := true, laidKinds := [.handle], laidTests := true, laidLooks := .later }
def TopNaiveCardSaid : Prop := Claim7.holds Tryz.pinned (.plain (OpenSpec.ofChange topNaiveSpec)) topNaiveCard

/-- THE TIED CARD OF 'stillwatertop.TopHands'. -/
def topHandsCard : Claim7 := { stood := { row := topHandsRow, standIns := [], harness := (true, "330a672d021df68e8903c4245959a0daa73993e1526d32b1562f6265b6e9d30d"), looks := true }, kinds := [], alts := [], goes := true, laidByText := true, laidKinds := [.handle], laidTests := true, laidLooks := .later }
def TopHandsCardSaid : Prop := Claim7.holds Tryz.pinned (.plain (OpenSpec.ofChange topHandsSpec)) topHandsCard

/-- THE SECOND FORM's CARD OF 'stillwatertop.TopNaive'. -/
def topNaiveUptoCard : Claim7 := { stood := { row := topNaiveUptoRow, standIns := [], harness := (true, "330a672d021df68e8903c4245959a0daa73993e1526d32b1562f6265b6e9d30d"), looks := true }, kinds := [], alts := [], goes := true, laidByText := true, laidKinds := [.handle], laidTests := true, laidLooks := .later }
def TopNaiveUptoCardSaid : Prop := Claim7.holds Tryz.pinned (.plain (OpenSpec.upto topNaiveSpec)) topNaiveUptoCard

/-- THE SECOND FORM's CARD OF 'stillwatertop.TopHands'. -/
def topHandsUptoCard : Claim7 := { stood := { row := topHandsUptoRow, standIns := [], harness := (true, "330a672d021df68e8903c4245959a0daa73993e1526d32b1562f6265b6e9d30d"), looks := true }, kinds := [], alts := [], goes := true, laidByText := true, laidKinds := [.handle], laidTests := true, laidLooks := .later }
def TopHandsUptoCardSaid : Prop := Claim7.holds Tryz.pinned (.plain (OpenSpec.upto topHandsSpec)) topHandsUptoCard
end Rows
end Go.Proofs.YteckohdbfkhmdadGreatDoor
