/-
  DERIVED. GIVEN WITH THE SEED: THE CARDS: each row of YtkmaclnhmkncfaaDoorRows.lean that lists a variable, with what it lists TIED to the program's text (the seventh form; the later family's looks); each row that meets fmt, with fmt's text TOLD by the authors' own Lean function (tested against real Go, not proved from fmt's source: count such statements apart). THE CARD IS WHAT COUNTS. Prove the row's statement (the work); the ties are given (YtkmaclnhmkncfaaDoorTie.lean); close each card by the builder's one call (the guide's Derived/Test/ToyasCard.lean, 'card_holds'). Laid BY PROGRAM, IN A SANDBOX (cutbox-door.mjs). By AI agents, Wed Nov 11 2026. No macro, syntax, notation, axiom, sorry.
-/
import Derived.Test.YtkmaclnhmkncfaaDoorRows
import GoSem.ClaimSeven
namespace Go.Proofs.YtkmaclnhmkncfaaDoor
namespace Rows

/-- THE TIED CARD OF 'computuslaw07.WhenReads'. -/
def whenReadsCard : Claim7 := { stood := { row := whenReadsRow, standIns := [], harness := (true, "9044e3567ccbe9b7f67177799086ebb6f35b5b7af90fcc237771e89a138ba6c3"), looks := true }, kinds := [], alts := [], laidByText := true, laidKinds := [.data, .pinned], laidTests := true, laidLooks := .later }
def WhenReadsCardSaid : Prop := Claim7.holds Tryd.pinned (.plain (OpenSpec.ofChange whenReadsSpec)) whenReadsCard

/-- THE TIED CARD OF 'computuslaw07.WhenDays'. -/
def whenDaysCard : Claim7 := { stood := { row := whenDaysRow, standIns := [], harness := (true, "9044e3567ccbe9b7f67177799086ebb6f35b5b7af90fcc237771e89a138ba6c3"), looks := true }, kinds := [], alts := [], laidByText := true, laidKinds := [.data, .pinned], laidTests := true, laidLooks := .later }
def WhenDaysCardSaid : Prop := Claim7.holds Tryd.pinned (.plain (OpenSpec.ofChange whenDaysSpec)) whenDaysCard

/-- THE TIED CARD OF 'computuslaw07.WhenNear'. -/
def whenNearCard : Claim7 := { stood := { row := whenNearRow, standIns := [], harness := (true, "9044e3567ccbe9b7f67177799086ebb6f35b5b7af90fcc237771e89a138ba6c3"), looks := true }, kinds := [], alts := [], laidByText := true, laidKinds := [.data, .pinned], laidTests := true, laidLooks := .later }
def WhenNearCardSaid : Prop := Claim7.holds Tryd.pinned (.plain (OpenSpec.ofChange whenNearSpec)) whenNearCard

/-- THE TIED CARD OF 'computuslaw07.WhenWeek'. -/
def whenWeekCard : Claim7 := { stood := { row := whenWeekRow, standIns := [], harness := (true, "9044e3567ccbe9b7f67177799086ebb6f35b5b7af90fcc237771e89a138ba6c3"), looks := true }, kinds := [], alts := [], laidByText := true, laidKinds := [.data, .pinned], laidTests := true, laidLooks := .later }
def WhenWeekCardSaid : Prop := Claim7.holds Tryd.pinned (.plain (OpenSpec.ofChange whenWeekSpec)) whenWeekCard

/-- THE TIED CARD OF 'computuslaw07.WhenTexts'. -/
def whenTextsCard : Claim7 := { stood := { row := whenTextsRow, standIns := [], harness := (true, "9044e3567ccbe9b7f67177799086ebb6f35b5b7af90fcc237771e89a138ba6c3"), looks := true }, kinds := [], alts := [], laidByText := true, laidKinds := [.data, .pinned], laidTests := true, laidLooks := .later }
def WhenTextsCardSaid : Prop := Claim7.holds Tryd.pinned (.plain (OpenSpec.ofChange whenTextsSpec)) whenTextsCard

/-- THE SECOND FORM's CARD OF 'computuslaw07.WhenReads'. -/
def whenReadsUptoCard : Claim7 := { stood := { row := whenReadsUptoRow, standIns := [], harness := (true, "9044e3567ccbe9b7f67177799086ebb6f35b5b7af90fcc237771e89a138ba6c3"), looks := true }, kinds := [], alts := [], laidByText := true, laidKinds := [.data, .pinned], laidTests := true, laidLooks := .later }
def WhenReadsUptoCardSaid : Prop := Claim7.holds Tryd.pinned (.plain (OpenSpec.upto whenReadsSpec)) whenReadsUptoCard

/-- THE SECOND FORM's CARD OF 'computuslaw07.WhenDays'. -/
def whenDaysUptoCard : Claim7 := { stood := { row := whenDaysUptoRow, standIns := [], harness := (true, "9044e3567ccbe9b7f67177799086ebb6f35b5b7af90fcc237771e89a138ba6c3"), looks := true }, kinds := [], alts := [], laidByText := true, laidKinds := [.data, .pinned], laidTests := true, laidLooks := .later }
def WhenDaysUptoCardSaid : Prop := Claim7.holds Tryd.pinned (.plain (OpenSpec.upto whenDaysSpec)) whenDaysUptoCard

/-- THE SECOND FORM's CARD OF 'computuslaw07.WhenNear'. -/
def whenNearUptoCard : Claim7 := { stood := { row := whenNearUptoRow, standIns := [], harness := (true, "9044e3567ccbe9b7f67177799086ebb6f35b5b7af90fcc237771e89a138ba6c3"), looks := true }, kinds := [], alts := [], laidByText := true, laidKinds := [.data, .pinned], laidTests := true, laidLooks := .later }
def WhenNearUptoCardSaid : Prop := Claim7.holds Tryd.pinned (.plain (OpenSpec.upto whenNearSpec)) whenNearUptoCard

/-- THE SECOND FORM's CARD OF 'computuslaw07.WhenWeek'. -/
def whenWeekUptoCard : Claim7 := { stood := { row := whenWeekUptoRow, standIns := [], harness := (true, "9044e3567ccbe9b7f67177799086ebb6f35b5b7af90fcc237771e89a138ba6c3"), looks := true }, kinds := [], alts := [], laidByText := true, laidKinds := [.data, .pinned], laidTests := true, laidLooks := .later }
def WhenWeekUptoCardSaid : Prop := Claim7.holds Tryd.pinned (.plain (OpenSpec.upto whenWeekSpec)) whenWeekUptoCard

/-- THE SECOND FORM's CARD OF 'computuslaw07.WhenTexts'. -/
def whenTextsUptoCard : Claim7 := { stood := { row := whenTextsUptoRow, standIns := [], harness := (true, "9044e3567ccbe9b7f67177799086ebb6f35b5b7af90fcc237771e89a138ba6c3"), looks := true }, kinds := [], alts := [], laidByText := true, laidKinds := [.data, .pinned], laidTests := true, laidLooks := .later }
def WhenTextsUptoCardSaid : Prop := Claim7.holds Tryd.pinned (.plain (OpenSpec.upto whenTextsSpec)) whenTextsUptoCard
end Rows
end Go.Proofs.YtkmaclnhmkncfaaDoor
