/-
  DERIVED. GIVEN WITH THE SEED: THE CARDS: each row of YtadjgjnicdcjbaaGreatDoorRows.lean that lists a variable, with what it lists TIED to the program's text (the seventh form; the later family's looks); each row that meets fmt, with fmt's text TOLD by the authors' own Lean function (tested against real Go, not proved from fmt's source: count such statements apart). THE CARD IS WHAT COUNTS. Prove the row's statement (the work); the ties are given (YtadjgjnicdcjbaaGreatDoorTie.lean); close each card by the builder's one call (the guide's Derived/Test/ToyasCard.lean, 'card_holds'). Laid BY PROGRAM, IN A SANDBOX (cutbox-door.mjs). By AI agents, Wed Nov 11 2026. No macro, syntax, notation, axiom, sorry.
-/
import Derived.Test.YtadjgjnicdcjbaaGreatDoorRows
import GoSem.ClaimSeven
namespace Go.Proofs.YtadjgjnicdcjbaaGreatDoor
namespace Rows

/-- THE TIED CARD OF 'kreisellaw06.RaceExamples'. -/
def raceExamplesCard : Claim7 := { stood := { row := raceExamplesRow, standIns := [], harness := (true, "088415838787c5430f0abdddd979ed2a5db6662ea085e3210461bc02ff0f1fa1"), looks := true }, kinds := [], alts := [], laidByText := true, laidKinds := [.funcsDeep], laidTests := true, laidLooks := .later }
def RaceExamplesCardSaid : Prop := Claim7.holds Tryz.pinned (.plain (OpenSpec.ofChange raceExamplesSpec)) raceExamplesCard

/-- THE TIED CARD OF 'kreisellaw06.RaceTable'. -/
def raceTableCard : Claim7 := { stood := { row := raceTableRow, standIns := [], harness := (true, "088415838787c5430f0abdddd979ed2a5db6662ea085e3210461bc02ff0f1fa1"), looks := true }, kinds := [], alts := [], laidByText := true, laidKinds := [.funcsDeep], laidTests := true, laidLooks := .later }
def RaceTableCardSaid : Prop := Claim7.holds Tryz.pinned (.plain (OpenSpec.ofChange raceTableSpec)) raceTableCard

/-- THE TIED CARD OF 'kreisellaw06.RaceRepaired'. -/
def raceRepairedCard : Claim7 := { stood := { row := raceRepairedRow, standIns := [], harness := (true, "088415838787c5430f0abdddd979ed2a5db6662ea085e3210461bc02ff0f1fa1"), looks := true }, kinds := [], alts := [], laidByText := true, laidKinds := [.funcsDeep], laidTests := true, laidLooks := .later }
def RaceRepairedCardSaid : Prop := Claim7.holds Tryz.pinned (.plain (OpenSpec.ofChange raceRepairedSpec)) raceRepairedCard

/-- THE TIED CARD OF 'kreisellaw06.RaceNarrowed'. -/
def raceNarrowedCard : Claim7 := { stood := { row := raceNarrowedRow, standIns := [], harness := (true, "088415838787c5430f0abdddd979ed2a5db6662ea085e3210461bc02ff0f1fa1"), looks := true }, kinds := [], alts := [], laidByText := true, laidKinds := [.funcsDeep], laidTests := true, laidLooks := .later }
def RaceNarrowedCardSaid : Prop := Claim7.holds Tryz.pinned (.plain (OpenSpec.ofChange raceNarrowedSpec)) raceNarrowedCard

/-- THE SECOND FORM's CARD OF 'kreisellaw06.RaceExamples'. -/
def raceExamplesUptoCard : Claim7 := { stood := { row := raceExamplesUptoRow, standIns := [], harness := (true, "088415838787c5430f0abdddd979ed2a5db6662ea085e3210461bc02ff0f1fa1"), looks := true }, kinds := [], alts := [], laidByText := true, laidKinds := [.funcsDeep], laidTests := true, laidLooks := .later }
def RaceExamplesUptoCardSaid : Prop := Claim7.holds Tryz.pinned (.plain (OpenSpec.upto raceExamplesSpec)) raceExamplesUptoCard

/-- THE SECOND FORM's CARD OF 'kreisellaw06.RaceTable'. -/
def raceTableUptoCard : Claim7 := { stood := { row := raceTableUptoRow, standIns := [], harness := (true, "088415838787c5430f0abdddd979ed2a5db6662ea085e3210461bc02ff0f1fa1"), looks := true }, kinds := [], alts := [], laidByText := true, laidKinds := [.funcsDeep], laidTests := true, laidLooks := .later }
def RaceTableUptoCardSaid : Prop := Claim7.holds Tryz.pinned (.plain (OpenSpec.upto raceTableSpec)) raceTableUptoCard

/-- THE SECOND FORM's CARD OF 'kreisellaw06.RaceRepaired'. -/
def raceRepairedUptoCard : Claim7 := { stood := { row := raceRepairedUptoRow, standIns := [], harness := (true, "088415838787c5430f0abdddd979ed2a5db6662ea085e3210461bc02ff0f1fa1"), looks := true }, kinds := [], alts := [], laidByText := true, laidKinds := [.funcsDeep], laidTests := true, laidLooks := .later }
def RaceRepairedUptoCardSaid : Prop := Claim7.holds Tryz.pinned (.plain (OpenSpec.upto raceRepairedSpec)) raceRepairedUptoCard

/-- THE SECOND FORM's CARD OF 'kreisellaw06.RaceNarrowed'. -/
def raceNarrowedUptoCard : Claim7 := { stood := { row := raceNarrowedUptoRow, standIns := [], harness := (true, "088415838787c5430f0abdddd979ed2a5db6662ea085e3210461bc02ff0f1fa1"), looks := true }, kinds := [], alts := [], laidByText := true, laidKinds := [.funcsDeep], laidTests := true, laidLooks := .later }
def RaceNarrowedUptoCardSaid : Prop := Claim7.holds Tryz.pinned (.plain (OpenSpec.upto raceNarrowedSpec)) raceNarrowedUptoCard
end Rows
end Go.Proofs.YtadjgjnicdcjbaaGreatDoor
