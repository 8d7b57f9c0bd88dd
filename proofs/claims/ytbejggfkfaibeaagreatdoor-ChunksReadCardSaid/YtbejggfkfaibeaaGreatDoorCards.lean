/-
  DERIVED. GIVEN WITH THE SEED: THE CARDS: each row of YtbejggfkfaibeaaGreatDoorRows.lean that lists a variable, with what it lists TIED to the program's text (the seventh form; the later family's looks); each row that meets fmt, with fmt's text TOLD by the authors' own Lean function (tested against real Go, not proved from fmt's source: count such statements apart). THE CARD IS WHAT COUNTS. Prove the row's statement (the work); the ties are given (YtbejggfkfaibeaaGreatDoorTie.lean); close each card by the builder's one call (the guide's Derived/Test/ToyasCard.lean, 'card_holds'). Laid BY PROGRAM, IN A SANDBOX (cutbox-door.mjs). By AI agents, Wed Nov 11 2026. No macro, syntax, notation, axiom, sorry.
-/
import Derived.Test.YtbejggfkfaibeaaGreatDoorRows
import GoSem.ClaimSeven
namespace Go.Proofs.YtbejggfkfaibeaaGreatDoor
namespace Rows

/-- THE TIED CARD OF 'gatelaw2.MessageChecks'. -/
def messageChecksCard : Claim7 := { stood := { row := messageChecksRow, standIns := [], harness := (true, "0054e3fc8e8cf17589fe35a746d99269e6378f15632cb8c3837c3b53b1954c40"), looks := true }, kinds := [], alts := [], laidByText := true, laidKinds := [.data, .data, .data, .data, .sentinel, .sentinel, .pinned, .pinned], laidTests := true, laidLooks := .later }
def MessageChecksCardSaid : Prop := Claim7.holds Tryz.pinned (.plain (OpenSpec.ofChange messageChecksSpec)) messageChecksCard

/-- THE TIED CARD OF 'gatelaw2.PathsNormal'. -/
def pathsNormalCard : Claim7 := { stood := { row := pathsNormalRow, standIns := [], harness := (true, "0054e3fc8e8cf17589fe35a746d99269e6378f15632cb8c3837c3b53b1954c40"), looks := true }, kinds := [], alts := [], laidByText := true, laidKinds := [.data, .data, .data, .data, .sentinel, .sentinel, .pinned, .pinned], laidTests := true, laidLooks := .later }
def PathsNormalCardSaid : Prop := Claim7.holds Tryz.pinned (.plain (OpenSpec.ofChange pathsNormalSpec)) pathsNormalCard

/-- THE TIED CARD OF 'gatelaw2.CookiesRead'. -/
def cookiesReadCard : Claim7 := { stood := { row := cookiesReadRow, standIns := [], harness := (true, "0054e3fc8e8cf17589fe35a746d99269e6378f15632cb8c3837c3b53b1954c40"), looks := true }, kinds := [], alts := [], laidByText := true, laidKinds := [.data, .data, .data, .data, .sentinel, .sentinel, .data, .data, .pinned, .pinned], laidTests := true, laidLooks := .later }
def CookiesReadCardSaid : Prop := Claim7.holds Tryz.pinned (.plain (OpenSpec.ofChange cookiesReadSpec)) cookiesReadCard

/-- THE TIED CARD OF 'gatelaw2.ListsRead'. -/
def listsReadCard : Claim7 := { stood := { row := listsReadRow, standIns := [], harness := (true, "0054e3fc8e8cf17589fe35a746d99269e6378f15632cb8c3837c3b53b1954c40"), looks := true }, kinds := [], alts := [], laidByText := true, laidKinds := [.data, .data, .data, .data, .sentinel, .sentinel, .pinned], laidTests := true, laidLooks := .later }
def ListsReadCardSaid : Prop := Claim7.holds Tryz.pinned (.plain (OpenSpec.ofChange listsReadSpec)) listsReadCard

/-- THE TIED CARD OF 'gatelaw2.ChunksRead'. -/
def chunksReadCard : Claim7 := { stood := { row := chunksReadRow, standIns := [], harness := (true, "0054e3fc8e8cf17589fe35a746d99269e6378f15632cb8c3837c3b53b1954c40"), looks := true }, kinds := [], alts := [], laidByText := true, laidKinds := [.data, .data, .data, .data, .sentinel, .sentinel, .pinned], laidTests := true, laidLooks := .later }
def ChunksReadCardSaid : Prop := Claim7.holds Tryz.pinned (.plain (OpenSpec.ofChange chunksReadSpec)) chunksReadCard

/-- THE SECOND FORM's CARD OF 'gatelaw2.MessageChecks'. -/
def messageChecksUptoCard : Claim7 := { stood := { row := messageChecksUptoRow, standIns := [], harness := (true, "0054e3fc8e8cf17589fe35a746d99269e6378f15632cb8c3837c3b53b1954c40"), looks := true }, kinds := [], alts := [], laidByText := true, laidKinds := [.data, .data, .data, .data, .sentinel, .sentinel, .pinned, .pinned], laidTests := true, laidLooks := .later }
def MessageChecksUptoCardSaid : Prop := Claim7.holds Tryz.pinned (.plain (OpenSpec.upto messageChecksSpec)) messageChecksUptoCard

/-- THE SECOND FORM's CARD OF 'gatelaw2.PathsNormal'. -/
def pathsNormalUptoCard : Claim7 := { stood := { row := pathsNormalUptoRow, standIns := [], harness := (true, "0054e3fc8e8cf17589fe35a746d99269e6378f15632cb8c3837c3b53b1954c40"), looks := true }, kinds := [], alts := [], laidByText := true, laidKinds := [.data, .data, .data, .data, .sentinel, .sentinel, .pinned, .pinned], laidTests := true, laidLooks := .later }
def PathsNormalUptoCardSaid : Prop := Claim7.holds Tryz.pinned (.plain (OpenSpec.upto pathsNormalSpec)) pathsNormalUptoCard

/-- THE SECOND FORM's CARD OF 'gatelaw2.CookiesRead'. -/
def cookiesReadUptoCard : Claim7 := { stood := { row := cookiesReadUptoRow, standIns := [], harness := (true, "0054e3fc8e8cf17589fe35a746d99269e6378f15632cb8c3837c3b53b1954c40"), looks := true }, kinds := [], alts := [], laidByText := true, laidKinds := [.data, .data, .data, .data, .sentinel, .sentinel, .data, .data, .pinned, .pinned], laidTests := true, laidLooks := .later }
def CookiesReadUptoCardSaid : Prop := Claim7.holds Tryz.pinned (.plain (OpenSpec.upto cookiesReadSpec)) cookiesReadUptoCard

/-- THE SECOND FORM's CARD OF 'gatelaw2.ListsRead'. -/
def listsReadUptoCard : Claim7 := { stood := { row := listsReadUptoRow, standIns := [], harness := (true, "0054e3fc8e8cf17589fe35a746d99269e6378f15632cb8c3837c3b53b1954c40"), looks := true }, kinds := [], alts := [], laidByText := true, laidKinds := [.data, .data, .data, .data, .sentinel, .sentinel, .pinned], laidTests := true, laidLooks := .later }
def ListsReadUptoCardSaid : Prop := Claim7.holds Tryz.pinned (.plain (OpenSpec.upto listsReadSpec)) listsReadUptoCard

/-- THE SECOND FORM's CARD OF 'gatelaw2.ChunksRead'. -/
def chunksReadUptoCard : Claim7 := { stood := { row := chunksReadUptoRow, standIns := [], harness := (true, "0054e3fc8e8cf17589fe35a746d99269e6378f15632cb8c3837c3b53b1954c40"), looks := true }, kinds := [], alts := [], laidByText := true, laidKinds := [.data, .data, .data, .data, .sentinel, .sentinel, .pinned], laidTests := true, laidLooks := .later }
def ChunksReadUptoCardSaid : Prop := Claim7.holds Tryz.pinned (.plain (OpenSpec.upto chunksReadSpec)) chunksReadUptoCard
end Rows
end Go.Proofs.YtbejggfkfaibeaaGreatDoor
