/-
  DERIVED. GIVEN WITH THE SEED: THE CARDS: each row of YtdllkkdchkhimaaGreatDoorRows.lean that lists a variable, with what it lists TIED to the program's text (the seventh form; the later family's looks); each row that meets fmt, with fmt's text TOLD by the authors' own Lean function (tested against real Go, not proved from fmt's source: count such statements apart). THE CARD IS WHAT COUNTS. Prove the row's statement (the work); the ties are given (YtdllkkdchkhimaaGreatDoorTie.lean); close each card by the builder's one call (the guide's Derived/Test/ToyasCard.lean, 'card_holds'). Laid BY PROGRAM, IN A SANDBOX (cutbox-door.mjs). By AI agents, Wed Nov 11 2026. No macro, syntax, notation, axiom, sorry.
-/
import Derived.Test.YtdllkkdchkhimaaGreatDoorRows
import GoSem.ClaimSeven
namespace Go.Proofs.YtdllkkdchkhimaaGreatDoor
namespace Rows

/-- THE TIED CARD OF 'kreisellaw06.RaceTrue'. -/
def raceTrueCard : Claim7 := { stood := { row := raceTrueRow, standIns := [], harness := (true, "d707d603fef6756814c027381744b2c541b0acfb8d070f8830a75e59a0686e6d"), looks := true }, kinds := [], alts := [], laidByText := true, laidKinds := [.funcsDeep], laidTests := true, laidLooks := .later }
def RaceTrueCardSaid : Prop := Claim7.holds Tryz.pinned (.plain (OpenSpec.ofChange raceTrueSpec)) raceTrueCard

/-- THE TIED CARD OF 'kreisellaw06.RaceReached'. -/
def raceReachedCard : Claim7 := { stood := { row := raceReachedRow, standIns := [], harness := (true, "d707d603fef6756814c027381744b2c541b0acfb8d070f8830a75e59a0686e6d"), looks := true }, kinds := [], alts := [], laidByText := true, laidKinds := [.funcsDeep], laidTests := true, laidLooks := .later }
def RaceReachedCardSaid : Prop := Claim7.holds Tryz.pinned (.plain (OpenSpec.ofChange raceReachedSpec)) raceReachedCard

/-- THE TIED CARD OF 'kreisellaw06.RaceTied'. -/
def raceTiedCard : Claim7 := { stood := { row := raceTiedRow, standIns := [], harness := (true, "d707d603fef6756814c027381744b2c541b0acfb8d070f8830a75e59a0686e6d"), looks := true }, kinds := [], alts := [], laidByText := true, laidKinds := [.funcsDeep], laidTests := true, laidLooks := .later }
def RaceTiedCardSaid : Prop := Claim7.holds Tryz.pinned (.plain (OpenSpec.ofChange raceTiedSpec)) raceTiedCard

/-- THE SECOND FORM's CARD OF 'kreisellaw06.RaceTrue'. -/
def raceTrueUptoCard : Claim7 := { stood := { row := raceTrueUptoRow, standIns := [], harness := (true, "d707d603fef6756814c027381744b2c541b0acfb8d070f8830a75e59a0686e6d"), looks := true }, kinds := [], alts := [], laidByText := true, laidKinds := [.funcsDeep], laidTests := true, laidLooks := .later }
def RaceTrueUptoCardSaid : Prop := Claim7.holds Tryz.pinned (.plain (OpenSpec.upto raceTrueSpec)) raceTrueUptoCard

/-- THE SECOND FORM's CARD OF 'kreisellaw06.RaceReached'. -/
def raceReachedUptoCard : Claim7 := { stood := { row := raceReachedUptoRow, standIns := [], harness := (true, "d707d603fef6756814c027381744b2c541b0acfb8d070f8830a75e59a0686e6d"), looks := true }, kinds := [], alts := [], laidByText := true, laidKinds := [.funcsDeep], laidTests := true, laidLooks := .later }
def RaceReachedUptoCardSaid : Prop := Claim7.holds Tryz.pinned (.plain (OpenSpec.upto raceReachedSpec)) raceReachedUptoCard

/-- THE SECOND FORM's CARD OF 'kreisellaw06.RaceTied'. -/
def raceTiedUptoCard : Claim7 := { stood := { row := raceTiedUptoRow, standIns := [], harness := (true, "d707d603fef6756814c027381744b2c541b0acfb8d070f8830a75e59a0686e6d"), looks := true }, kinds := [], alts := [], laidByText := true, laidKinds := [.funcsDeep], laidTests := true, laidLooks := .later }
def RaceTiedUptoCardSaid : Prop := Claim7.holds Tryz.pinned (.plain (OpenSpec.upto raceTiedSpec)) raceTiedUptoCard
end Rows
end Go.Proofs.YtdllkkdchkhimaaGreatDoor
