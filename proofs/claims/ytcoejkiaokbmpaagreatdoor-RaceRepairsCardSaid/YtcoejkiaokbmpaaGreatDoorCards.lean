/-
  DERIVED. GIVEN WITH THE SEED: THE CARDS: each row of YtcoejkiaokbmpaaGreatDoorRows.lean that lists a variable, with what it lists TIED to the program's text (the seventh form; the later family's looks); each row that meets fmt, with fmt's text TOLD by the authors' own Lean function (tested against real Go, not proved from fmt's source: count such statements apart). THE CARD IS WHAT COUNTS. Prove the row's statement (the work); the ties are given (YtcoejkiaokbmpaaGreatDoorTie.lean); close each card by the builder's one call (the guide's Derived/Test/ToyasCard.lean, 'card_holds'). Laid BY PROGRAM, IN A SANDBOX (cutbox-door.mjs). By AI agents, Wed Nov 11 2026. No macro, syntax, notation, axiom, sorry.
-/
import Derived.Test.YtcoejkiaokbmpaaGreatDoorRows
import GoSem.ClaimSeven
namespace Go.Proofs.YtcoejkiaokbmpaaGreatDoor
namespace Rows

/-- THE TIED CARD OF 'kreisellaw06.RaceRanks'. -/
def raceRanksCard : Claim7 := { stood := { row := raceRanksRow, standIns := [], harness := (true, "981a7e6aa00b04bbbf7562520f02155a1be509dd9d233787eb37c6cf32ecaf8a"), looks := true }, kinds := [], alts := [], laidByText := true, laidKinds := [.funcsDeep], laidTests := true, laidLooks := .later }
def RaceRanksCardSaid : Prop := Claim7.holds Tryz.pinned (.plain (OpenSpec.ofChange raceRanksSpec)) raceRanksCard

/-- THE TIED CARD OF 'kreisellaw06.RaceTimes'. -/
def raceTimesCard : Claim7 := { stood := { row := raceTimesRow, standIns := [], harness := (true, "981a7e6aa00b04bbbf7562520f02155a1be509dd9d233787eb37c6cf32ecaf8a"), looks := true }, kinds := [], alts := [], laidByText := true, laidKinds := [.funcsDeep], laidTests := true, laidLooks := .later }
def RaceTimesCardSaid : Prop := Claim7.holds Tryz.pinned (.plain (OpenSpec.ofChange raceTimesSpec)) raceTimesCard

/-- THE TIED CARD OF 'kreisellaw06.RaceRepairs'. -/
def raceRepairsCard : Claim7 := { stood := { row := raceRepairsRow, standIns := [], harness := (true, "981a7e6aa00b04bbbf7562520f02155a1be509dd9d233787eb37c6cf32ecaf8a"), looks := true }, kinds := [], alts := [], laidByText := true, laidKinds := [.funcsDeep], laidTests := true, laidLooks := .later }
def RaceRepairsCardSaid : Prop := Claim7.holds Tryz.pinned (.plain (OpenSpec.ofChange raceRepairsSpec)) raceRepairsCard

/-- THE SECOND FORM's CARD OF 'kreisellaw06.RaceRanks'. -/
def raceRanksUptoCard : Claim7 := { stood := { row := raceRanksUptoRow, standIns := [], harness := (true, "981a7e6aa00b04bbbf7562520f02155a1be509dd9d233787eb37c6cf32ecaf8a"), looks := true }, kinds := [], alts := [], laidByText := true, laidKinds := [.funcsDeep], laidTests := true, laidLooks := .later }
def RaceRanksUptoCardSaid : Prop := Claim7.holds Tryz.pinned (.plain (OpenSpec.upto raceRanksSpec)) raceRanksUptoCard

/-- THE SECOND FORM's CARD OF 'kreisellaw06.RaceTimes'. -/
def raceTimesUptoCard : Claim7 := { stood := { row := raceTimesUptoRow, standIns := [], harness := (true, "981a7e6aa00b04bbbf7562520f02155a1be509dd9d233787eb37c6cf32ecaf8a"), looks := true }, kinds := [], alts := [], laidByText := true, laidKinds := [.funcsDeep], laidTests := true, laidLooks := .later }
def RaceTimesUptoCardSaid : Prop := Claim7.holds Tryz.pinned (.plain (OpenSpec.upto raceTimesSpec)) raceTimesUptoCard

/-- THE SECOND FORM's CARD OF 'kreisellaw06.RaceRepairs'. -/
def raceRepairsUptoCard : Claim7 := { stood := { row := raceRepairsUptoRow, standIns := [], harness := (true, "981a7e6aa00b04bbbf7562520f02155a1be509dd9d233787eb37c6cf32ecaf8a"), looks := true }, kinds := [], alts := [], laidByText := true, laidKinds := [.funcsDeep], laidTests := true, laidLooks := .later }
def RaceRepairsUptoCardSaid : Prop := Claim7.holds Tryz.pinned (.plain (OpenSpec.upto raceRepairsSpec)) raceRepairsUptoCard
end Rows
end Go.Proofs.YtcoejkiaokbmpaaGreatDoor
