/-
  DERIVED. GIVEN WITH THE SEED: THE CARDS: each row of YtmdohnabdlolkaaGreatDoorRows.lean that lists a variable, with what it lists TIED to the program's text (the seventh form; the later family's looks); each row that meets fmt, with fmt's text TOLD by the authors' own Lean function (tested against real Go, not proved from fmt's source: count such statements apart). THE CARD IS WHAT COUNTS. Prove the row's statement (the work); the ties are given (YtmdohnabdlolkaaGreatDoorTie.lean); close each card by the builder's one call (the guide's Derived/Test/ToyasCard.lean, 'card_holds'). Laid BY PROGRAM, IN A SANDBOX (cutbox-door.mjs). By AI agents, Wed Nov 11 2026. No macro, syntax, notation, axiom, sorry.
-/
import Derived.Test.YtmdohnabdlolkaaGreatDoorRows
import GoSem.ClaimSeven
namespace Go.Proofs.YtmdohnabdlolkaaGreatDoor
namespace Rows

/-- THE TIED CARD OF 'almonerlaw12.ChainsPlay'. -/
def chainsPlayCard : Claim7 := { stood := { row := chainsPlayRow, standIns := [], harness := (true, "60a8eff4a15bf16ccc51f8521b63484408bf8955163e7b7c0e6a7069cd1ef8c2"), looks := true }, kinds := [], alts := [], laidByText := true, laidKinds := [.data, .data, .data], laidTests := true, laidLooks := .later }
def ChainsPlayCardSaid : Prop := Claim7.holds Tryz.pinned (.plain (OpenSpec.ofChange chainsPlaySpec)) chainsPlayCard

/-- THE TIED CARD OF 'almonerlaw13.ClashesOf'. -/
def clashesOfCard : Claim7 := { stood := { row := clashesOfRow, standIns := [], harness := (true, "60a8eff4a15bf16ccc51f8521b63484408bf8955163e7b7c0e6a7069cd1ef8c2"), looks := true }, kinds := [], alts := [], laidByText := true, laidKinds := [.data, .data, .data], laidTests := true, laidLooks := .later }
def ClashesOfCardSaid : Prop := Claim7.holds Tryz.pinned (.plain (OpenSpec.ofChange clashesOfSpec)) clashesOfCard

/-- THE TIED CARD OF 'almonerlaw15.MapsPlay'. -/
def mapsPlayCard : Claim7 := { stood := { row := mapsPlayRow, standIns := [], harness := (true, "60a8eff4a15bf16ccc51f8521b63484408bf8955163e7b7c0e6a7069cd1ef8c2"), looks := true }, kinds := [], alts := [], laidByText := true, laidKinds := [.data, .data, .data], laidTests := true, laidLooks := .later }
def MapsPlayCardSaid : Prop := Claim7.holds Tryz.pinned (.plain (OpenSpec.ofChange mapsPlaySpec)) mapsPlayCard

/-- THE TIED CARD OF 'almonerlaw16.ShowsOf'. -/
def showsOfCard : Claim7 := { stood := { row := showsOfRow, standIns := [], harness := (true, "60a8eff4a15bf16ccc51f8521b63484408bf8955163e7b7c0e6a7069cd1ef8c2"), looks := true }, kinds := [], alts := [], laidByText := true, laidKinds := [.data, .data, .data], laidTests := true, laidLooks := .later }
def ShowsOfCardSaid : Prop := Claim7.holds Tryz.pinned (.plain (OpenSpec.ofChange showsOfSpec)) showsOfCard

/-- THE TIED CARD OF 'almonerlaw17.SplitsOf'. -/
def splitsOfCard : Claim7 := { stood := { row := splitsOfRow, standIns := [], harness := (true, "60a8eff4a15bf16ccc51f8521b63484408bf8955163e7b7c0e6a7069cd1ef8c2"), looks := true }, kinds := [], alts := [], laidByText := true, laidKinds := [.data, .data, .data], laidTests := true, laidLooks := .later }
def SplitsOfCardSaid : Prop := Claim7.holds Tryz.pinned (.plain (OpenSpec.ofChange splitsOfSpec)) splitsOfCard

/-- THE SECOND FORM's CARD OF 'almonerlaw12.ChainsPlay'. -/
def chainsPlayUptoCard : Claim7 := { stood := { row := chainsPlayUptoRow, standIns := [], harness := (true, "60a8eff4a15bf16ccc51f8521b63484408bf8955163e7b7c0e6a7069cd1ef8c2"), looks := true }, kinds := [], alts := [], laidByText := true, laidKinds := [.data, .data, .data], laidTests := true, laidLooks := .later }
def ChainsPlayUptoCardSaid : Prop := Claim7.holds Tryz.pinned (.plain (OpenSpec.upto chainsPlaySpec)) chainsPlayUptoCard

/-- THE SECOND FORM's CARD OF 'almonerlaw13.ClashesOf'. -/
def clashesOfUptoCard : Claim7 := { stood := { row := clashesOfUptoRow, standIns := [], harness := (true, "60a8eff4a15bf16ccc51f8521b63484408bf8955163e7b7c0e6a7069cd1ef8c2"), looks := true }, kinds := [], alts := [], laidByText := true, laidKinds := [.data, .data, .data], laidTests := true, laidLooks := .later }
def ClashesOfUptoCardSaid : Prop := Claim7.holds Tryz.pinned (.plain (OpenSpec.upto clashesOfSpec)) clashesOfUptoCard

/-- THE SECOND FORM's CARD OF 'almonerlaw15.MapsPlay'. -/
def mapsPlayUptoCard : Claim7 := { stood := { row := mapsPlayUptoRow, standIns := [], harness := (true, "60a8eff4a15bf16ccc51f8521b63484408bf8955163e7b7c0e6a7069cd1ef8c2"), looks := true }, kinds := [], alts := [], laidByText := true, laidKinds := [.data, .data, .data], laidTests := true, laidLooks := .later }
def MapsPlayUptoCardSaid : Prop := Claim7.holds Tryz.pinned (.plain (OpenSpec.upto mapsPlaySpec)) mapsPlayUptoCard

/-- THE SECOND FORM's CARD OF 'almonerlaw16.ShowsOf'. -/
def showsOfUptoCard : Claim7 := { stood := { row := showsOfUptoRow, standIns := [], harness := (true, "60a8eff4a15bf16ccc51f8521b63484408bf8955163e7b7c0e6a7069cd1ef8c2"), looks := true }, kinds := [], alts := [], laidByText := true, laidKinds := [.data, .data, .data], laidTests := true, laidLooks := .later }
def ShowsOfUptoCardSaid : Prop := Claim7.holds Tryz.pinned (.plain (OpenSpec.upto showsOfSpec)) showsOfUptoCard

/-- THE SECOND FORM's CARD OF 'almonerlaw17.SplitsOf'. -/
def splitsOfUptoCard : Claim7 := { stood := { row := splitsOfUptoRow, standIns := [], harness := (true, "60a8eff4a15bf16ccc51f8521b63484408bf8955163e7b7c0e6a7069cd1ef8c2"), looks := true }, kinds := [], alts := [], laidByText := true, laidKinds := [.data, .data, .data], laidTests := true, laidLooks := .later }
def SplitsOfUptoCardSaid : Prop := Claim7.holds Tryz.pinned (.plain (OpenSpec.upto splitsOfSpec)) splitsOfUptoCard
end Rows
end Go.Proofs.YtmdohnabdlolkaaGreatDoor
