/-
  DERIVED. GIVEN WITH THE SEED: THE CARDS: each row of YtdniadhpgohccaaGreatDoorRows.lean that lists a variable, with what it lists TIED to the program's text (the seventh form; the later family's looks); each row that meets fmt, with fmt's text TOLD by the authors' own Lean function (tested against real Go, not proved from fmt's source: count such statements apart). THE CARD IS WHAT COUNTS. Prove the row's statement (the work); the ties are given (YtdniadhpgohccaaGreatDoorTie.lean); close each card by the builder's one call (the guide's Derived/Test/ToyasCard.lean, 'card_holds'). Laid BY PROGRAM, IN A SANDBOX (cutbox-door.mjs). By AI agents, Wed Nov 11 2026. No macro, syntax, notation, axiom, sorry.
-/
import Derived.Test.YtdniadhpgohccaaGreatDoorRows
import GoSem.ClaimSeven
namespace Go.Proofs.YtdniadhpgohccaaGreatDoor
namespace Rows

/-- THE TIED CARD OF 'computuslaw18.ReadAgo'. -/
def readAgoCard : Claim7 := { stood := { row := readAgoRow, standIns := [], harness := (true, "cb4f582e2c9e1871658662fb0bc180f603553d92e7e4403524f4c6b69d3ecff0"), looks := true }, kinds := [], alts := [], laidByText := true, laidKinds := [.data, .pinned], laidTests := true, laidLooks := .later }
def ReadAgoCardSaid : Prop := Claim7.holds Tryz.pinned (.plain (OpenSpec.ofChange readAgoSpec)) readAgoCard

/-- THE TIED CARD OF 'computuslaw18.ReadDates'. -/
def readDatesCard : Claim7 := { stood := { row := readDatesRow, standIns := [], harness := (true, "cb4f582e2c9e1871658662fb0bc180f603553d92e7e4403524f4c6b69d3ecff0"), looks := true }, kinds := [], alts := [], laidByText := true, laidKinds := [.data, .pinned], laidTests := true, laidLooks := .later }
def ReadDatesCardSaid : Prop := Claim7.holds Tryz.pinned (.plain (OpenSpec.ofChange readDatesSpec)) readDatesCard

/-- THE TIED CARD OF 'computuslaw18.ReadBlanks'. -/
def readBlanksCard : Claim7 := { stood := { row := readBlanksRow, standIns := [], harness := (true, "cb4f582e2c9e1871658662fb0bc180f603553d92e7e4403524f4c6b69d3ecff0"), looks := true }, kinds := [], alts := [], laidByText := true, laidKinds := [.data, .pinned], laidTests := true, laidLooks := .later }
def ReadBlanksCardSaid : Prop := Claim7.holds Tryz.pinned (.plain (OpenSpec.ofChange readBlanksSpec)) readBlanksCard

/-- THE TIED CARD OF 'computuslaw19.ShowSpanBack'. -/
def showSpanBackCard : Claim7 := { stood := { row := showSpanBackRow, standIns := [], harness := (true, "cb4f582e2c9e1871658662fb0bc180f603553d92e7e4403524f4c6b69d3ecff0"), looks := true }, kinds := [], alts := [], laidByText := true, laidKinds := [.data, .pinned], laidTests := true, laidLooks := .later }
def ShowSpanBackCardSaid : Prop := Claim7.holds Tryz.pinned (.plain (OpenSpec.ofChange showSpanBackSpec)) showSpanBackCard

/-- THE TIED CARD OF 'computuslaw19.ShowBack'. -/
def showBackCard : Claim7 := { stood := { row := showBackRow, standIns := [], harness := (true, "cb4f582e2c9e1871658662fb0bc180f603553d92e7e4403524f4c6b69d3ecff0"), looks := true }, kinds := [], alts := [], laidByText := true, laidKinds := [.data, .pinned], laidTests := true, laidLooks := .later }
def ShowBackCardSaid : Prop := Claim7.holds Tryz.pinned (.plain (OpenSpec.ofChange showBackSpec)) showBackCard

/-- THE SECOND FORM's CARD OF 'computuslaw18.ReadAgo'. -/
def readAgoUptoCard : Claim7 := { stood := { row := readAgoUptoRow, standIns := [], harness := (true, "cb4f582e2c9e1871658662fb0bc180f603553d92e7e4403524f4c6b69d3ecff0"), looks := true }, kinds := [], alts := [], laidByText := true, laidKinds := [.data, .pinned], laidTests := true, laidLooks := .later }
def ReadAgoUptoCardSaid : Prop := Claim7.holds Tryz.pinned (.plain (OpenSpec.upto readAgoSpec)) readAgoUptoCard

/-- THE SECOND FORM's CARD OF 'computuslaw18.ReadDates'. -/
def readDatesUptoCard : Claim7 := { stood := { row := readDatesUptoRow, standIns := [], harness := (true, "cb4f582e2c9e1871658662fb0bc180f603553d92e7e4403524f4c6b69d3ecff0"), looks := true }, kinds := [], alts := [], laidByText := true, laidKinds := [.data, .pinned], laidTests := true, laidLooks := .later }
def ReadDatesUptoCardSaid : Prop := Claim7.holds Tryz.pinned (.plain (OpenSpec.upto readDatesSpec)) readDatesUptoCard

/-- THE SECOND FORM's CARD OF 'computuslaw18.ReadBlanks'. -/
def readBlanksUptoCard : Claim7 := { stood := { row := readBlanksUptoRow, standIns := [], harness := (true, "cb4f582e2c9e1871658662fb0bc180f603553d92e7e4403524f4c6b69d3ecff0"), looks := true }, kinds := [], alts := [], laidByText := true, laidKinds := [.data, .pinned], laidTests := true, laidLooks := .later }
def ReadBlanksUptoCardSaid : Prop := Claim7.holds Tryz.pinned (.plain (OpenSpec.upto readBlanksSpec)) readBlanksUptoCard

/-- THE SECOND FORM's CARD OF 'computuslaw19.ShowSpanBack'. -/
def showSpanBackUptoCard : Claim7 := { stood := { row := showSpanBackUptoRow, standIns := [], harness := (true, "cb4f582e2c9e1871658662fb0bc180f603553d92e7e4403524f4c6b69d3ecff0"), looks := true }, kinds := [], alts := [], laidByText := true, laidKinds := [.data, .pinned], laidTests := true, laidLooks := .later }
def ShowSpanBackUptoCardSaid : Prop := Claim7.holds Tryz.pinned (.plain (OpenSpec.upto showSpanBackSpec)) showSpanBackUptoCard

/-- THE SECOND FORM's CARD OF 'computuslaw19.ShowBack'. -/
def showBackUptoCard : Claim7 := { stood := { row := showBackUptoRow, standIns := [], harness := (true, "cb4f582e2c9e1871658662fb0bc180f603553d92e7e4403524f4c6b69d3ecff0"), looks := true }, kinds := [], alts := [], laidByText := true, laidKinds := [.data, .pinned], laidTests := true, laidLooks := .later }
def ShowBackUptoCardSaid : Prop := Claim7.holds Tryz.pinned (.plain (OpenSpec.upto showBackSpec)) showBackUptoCard
end Rows
end Go.Proofs.YtdniadhpgohccaaGreatDoor
