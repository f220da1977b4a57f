/-
  DERIVED. GIVEN WITH THE SEED: THE CARDS: each row of YteckohdbfkhmdacGreatDoorRows.lean that lists a variable, with what it lists TIED to the program's text (the seventh form; the later family's looks); each row that meets fmt, with fmt's text TOLD by the authors' own Lean function (tested against real Go, not proved from fmt's source: count such statements apart). THE CARD IS WHAT COUNTS. Prove the row's statement (the work); the ties are given (YteckohdbfkhmdacGreatDoorTie.lean); close each card by the builder's one call (the guide's Derived/Test/ToyasCard.lean, 'card_holds'). Laid BY PROGRAM, IN A SANDBOX (cutbox-door.mjs). By AI agents, Wed Nov 11 2026. No macro, syntax, notation, axiom, sorry.
-/
import Derived.Test.YteckohdbfkhmdacGreatDoorRows
import GoSem.ClaimSeven
namespace Go.Proofs.YteckohdbfkhmdacGreatDoor
namespace Rows

/-- THE TIED CARD OF 'stillwaterlaw.MirrorMade'. -/
def mirrorMadeCard : Claim7 := { stood := { row := mirrorMadeRow, standIns := [], harness := (true, "7e5afd451c2d54b8e1faed30c41fce22538b69a805111dfd7589bf31076f37ff"), looks := true }, kinds := [], alts := [], goes := true, laidByText := true, laidKinds := [.handle], laidTests := true, laidLooks := .later }
def MirrorMadeCardSaid : Prop := Claim7.holds Tryz.pinned (.plain (OpenSpec.ofChange mirrorMadeSpec)) mirrorMadeCard

/-- THE TIED CARD OF 'stillwaterlaw.SettleSays'. -/
def settleSaysCard : Claim7 := { stood := { row := settleSaysRow, standIns := [], harness := (true, "7e5afd451c2d54b8e1faed30c41fce22538b69a805111dfd7589bf31076f37ff"), looks := true }, kinds := [], alts := [], goes := true, laidByText := true, laidKinds := [.handle], laidTests := true, laidLooks := .later }
def SettleSaysCardSaid : Prop := Claim7.holds Tryz.pinned (.plain (OpenSpec.ofChange settleSaysSpec)) settleSaysCard

/-- THE TIED CARD OF 'stillwaterlaw.SettleMade'. -/
def settleMadeCard : Claim7 := { stood := { row := settleMadeRow, standIns := [], harness := (true, "7e5afd451c2d54b8e1faed30c41fce22538b69a805111dfd7589bf31076f37ff"), looks := true }, kinds := [], alts := [], goes := true, laidByText := true, laidKinds := [.handle], laidTests := true, laidLooks := .later }
def SettleMadeCardSaid : Prop := Claim7.holds Tryz.pinned (.plain (OpenSpec.ofChange settleMadeSpec)) settleMadeCard

/-- THE TIED CARD OF 'stillwaterlaw.FarmSays'. -/
def farmSaysCard : Claim7 := { stood := { row := farmSaysRow, standIns := [], harness := (true, "7e5afd451c2d54b8e1faed30c41fce22538b69a805111dfd7589bf31076f37ff"), looks := true }, kinds := [], alts := [], goes := true, laidByText := true, laidKinds := [.handle], laidTests := true, laidLooks := .later }
def FarmSaysCardSaid : Prop := Claim7.holds Tryz.pinned (.plain (OpenSpec.ofChange farmSaysSpec)) farmSaysCard

/-- THE TIED CARD OF 'stillwaterlaw.ConsoleSays'. -/
def consoleSaysCard : Claim7 := { stood := { row := consoleSaysRow, standIns := [], harness := (true, "7e5afd451c2d54b8e1faed30c41fce22538b69a805111dfd7589bf31076f37ff"), looks := true }, kinds := [], alts := [], goes := true, laidByText := true, laidKinds := [.data, .data, .data, .data, .handle, .sentinel, .sentinel, .pinned], laidTests := true, laidLooks := .later }
def ConsoleSaysCardSaid : Prop := Claim7.holds Tryz.pinned (.plain (OpenSpec.ofChange consoleSaysSpec)) consoleSaysCard

/-- THE TIED CARD OF 'stillwatertop.TopMirror'. -/
def topMirrorCard : Claim7 := { stood := { row := topMirrorRow, standIns := [], harness := (true, "7e5afd451c2d54b8e1faed30c41fce22538b69a805111dfd7589bf31076f37ff"), looks := true }, kinds := [], alts := [], goes := true, laidByText := true, laidKinds := [.handle], laidTests := true, laidLooks := .later }
def TopMirrorCardSaid : Prop := Claim7.holds Tryz.pinned (.plain (OpenSpec.ofChange topMirrorSpec)) topMirrorCard

/-- THE TIED CARD OF 'stillwatertop.TopUnseen'. -/
def topUnseenCard : Claim7 := { stood := { row := topUnseenRow, standIns := [], harness := (true, "7e5afd451c2d54b8e1faed30c41fce22538b69a805111dfd7589bf31076f37ff"), looks := true }, kinds := [], alts := [], goes := true, laidByText := true, laidKinds := [.handle], laidTests := true, laidLooks := .later }
def TopUnseenCardSaid : Prop := Claim7.holds Tryz.pinned (.plain (OpenSpec.ofChange topUnseenSpec)) topUnseenCard

/-- THE SECOND FORM's CARD OF 'stillwaterlaw.MirrorMade'. -/
def mirrorMadeUptoCard : Claim7 := { stood := { row := mirrorMadeUptoRow, standIns := [], harness := (true, "7e5afd451c2d54b8e1faed30c41fce22538b69a805111dfd7589bf31076f37ff"), looks := true }, kinds := [], alts := [], goes := true, laidByText := true, laidKinds := [.handle], laidTests := true, laidLooks := .later }
def MirrorMadeUptoCardSaid : Prop := Claim7.holds Tryz.pinned (.plain (OpenSpec.upto mirrorMadeSpec)) mirrorMadeUptoCard

/-- THE SECOND FORM's CARD OF 'stillwaterlaw.SettleSays'. -/
def settleSaysUptoCard : Claim7 := { stood := { row := settleSaysUptoRow, standIns := [], harness := (true, "7e5afd451c2d54b8e1faed30c41fce22538b69a805111dfd7589bf31076f37ff"), looks := true }, kinds := [], alts := [], goes := true, laidByText := true, laidKinds := [.handle], laidTests := true, laidLooks := .later }
def SettleSaysUptoCardSaid : Prop := Claim7.holds Tryz.pinned (.plain (OpenSpec.upto settleSaysSpec)) settleSaysUptoCard

/-- THE SECOND FORM's CARD OF 'stillwaterlaw.SettleMade'. -/
def settleMadeUptoCard : Claim7 := { stood := { row := settleMadeUptoRow, standIns := [], harness := (true, "7e5afd451c2d54b8e1faed30c41fce22538b69a805111dfd7589bf31076f37ff"), looks := true }, kinds := [], alts := [], goes := true, laidByText := true, laidKinds := [.handle], laidTests := true, laidLooks := .later }
def SettleMadeUptoCardSaid : Prop := Claim7.holds Tryz.pinned (.plain (OpenSpec.upto settleMadeSpec)) settleMadeUptoCard

/-- THE SECOND FORM's CARD OF 'stillwaterlaw.FarmSays'. -/
def farmSaysUptoCard : Claim7 := { stood := { row := farmSaysUptoRow, standIns := [], harness := (true, "7e5afd451c2d54b8e1faed30c41fce22538b69a805111dfd7589bf31076f37ff"), looks := true }, kinds := [], alts := [], goes := true, laidByText := true, laidKinds := [.handle], laidTests := true, laidLooks := .later }
def FarmSaysUptoCardSaid : Prop := Claim7.holds Tryz.pinned (.plain (OpenSpec.upto farmSaysSpec)) farmSaysUptoCard

/-- THE SECOND FORM's CARD OF 'stillwaterlaw.ConsoleSays'. -/
def consoleSaysUptoCard : Claim7 := { stood := { row := consoleSaysUptoRow, standIns := [], harness := (true, "7e5afd451c2d54b8e1faed30c41fce22538b69a805111dfd7589bf31076f37ff"), looks := true }, kinds := [], alts := [], goes := true, laidByText := true, laidKinds := [.data, .data, .data, .data, .handle, .sentinel, .sentinel, .pinned], laidTests := true, laidLooks := .later }
def ConsoleSaysUptoCardSaid : Prop := Claim7.holds Tryz.pinned (.plain (OpenSpec.upto consoleSaysSpec)) consoleSaysUptoCard

/-- THE SECOND FORM's CARD OF 'stillwatertop.TopMirror'. -/
def topMirrorUptoCard : Claim7 := { stood := { row := topMirrorUptoRow, standIns := [], harness := (true, "7e5afd451c2d54b8e1faed30c41fce22538b69a805111dfd7589bf31076f37ff"), looks := true }, kinds := [], alts := [], goes := true, laidByText := true, laidKinds := [.handle], laidTests := true, laidLooks := .later }
def TopMirrorUptoCardSaid : Prop := Claim7.holds Tryz.pinned (.plain (OpenSpec.upto topMirrorSpec)) topMirrorUptoCard

/-- THE SECOND FORM's CARD OF 'stillwatertop.TopUnseen'. -/
def topUnseenUptoCard : Claim7 := { stood := { row := topUnseenUptoRow, standIns := [], harness := (true, "7e5afd451c2d54b8e1faed30c41fce22538b69a805111dfd7589bf31076f37ff"), looks := true }, kinds := [], alts := [], goes := true, laidByText := true, laidKinds := [.handle], laidTests := true, laidLooks := .later }
def TopUnseenUptoCardSaid : Prop := Claim7.holds Tryz.pinned (.plain (OpenSpec.upto topUnseenSpec)) topUnseenUptoCard
end Rows
end Go.Proofs.YteckohdbfkhmdacGreatDoor
