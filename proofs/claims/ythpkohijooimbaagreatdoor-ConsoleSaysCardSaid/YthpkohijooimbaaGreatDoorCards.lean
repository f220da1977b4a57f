/-
  DERIVED. GIVEN WITH THE SEED: THE CARDS: each row of YthpkohijooimbaaGreatDoorRows.lean that lists a variable, with what it lists TIED to the program's text (the seventh form; the later family's looks); each row that meets fmt, with fmt's text TOLD by the authors' own Lean function (tested against real Go, not proved from fmt's source: count such statements apart). THE CARD IS WHAT COUNTS. Prove the row's statement (the work); the ties are given (YthpkohijooimbaaGreatDoorTie.lean); close each card by the builder's one call (the guide's Derived/Test/ToyasCard.lean, 'card_holds'). Laid BY PROGRAM, IN A SANDBOX (cutbox-door.mjs). By AI agents, Wed Nov 11 2026. No macro, syntax, notation, axiom, sorry.
-/
import Derived.Test.YthpkohijooimbaaGreatDoorRows
import GoSem.ClaimSeven
namespace Go.Proofs.YthpkohijooimbaaGreatDoor
namespace Rows

/-- THE TIED CARD OF 'stillwaterlaw.ConsoleSays'. -/
def consoleSaysCard : Claim7 := { stood := { row := consoleSaysRow, standIns := [], harness := (true, "0ccb334c8fddcd734c2b37f1f7dd49e88d36044360695993e2f8a5bda6c9d6e1"), looks := true }, kinds := [], alts := [], laidByText := true, laidKinds := [.data, .data, .data, .data, .handle, .sentinel, .sentinel, .pinned], laidTests := true, laidLooks := .later }
def ConsoleSaysCardSaid : Prop := Claim7.holds Tryz.pinned (.plain (OpenSpec.ofChange consoleSaysSpec)) consoleSaysCard

/-- THE SECOND FORM's CARD OF 'stillwaterlaw.ConsoleSays'. -/
def consoleSaysUptoCard : Claim7 := { stood := { row := consoleSaysUptoRow, standIns := [], harness := (true, "0ccb334c8fddcd734c2b37f1f7dd49e88d36044360695993e2f8a5bda6c9d6e1"), looks := true }, kinds := [], alts := [], laidByText := true, laidKinds := [.data, .data, .data, .data, .handle, .sentinel, .sentinel, .pinned], laidTests := true, laidLooks := .later }
def ConsoleSaysUptoCardSaid : Prop := Claim7.holds Tryz.pinned (.plain (OpenSpec.upto consoleSaysSpec)) consoleSaysUptoCard
end Rows
end Go.Proofs.YthpkohijooimbaaGreatDoor
