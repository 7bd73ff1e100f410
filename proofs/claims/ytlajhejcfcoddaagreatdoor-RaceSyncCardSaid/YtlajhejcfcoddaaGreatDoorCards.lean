/-
  DERIVED. GIVEN WITH THE SEED: THE CARDS: each row of YtlajhejcfcoddaaGreatDoorRows.lean that lists a variable, with what it lists TIED to the program's text (the seventh form; the later family's looks); each row that meets fmt, with fmt's text TOLD by the authors' own Lean function (tested against real Go, not proved from fmt's source: count such statements apart). THE CARD IS WHAT COUNTS. Prove the row's statement (the work); the ties are given (YtlajhejcfcoddaaGreatDoorTie.lean); close each card by the builder's one call (the guide's Derived/Test/ToyasCard.lean, 'card_holds'). Laid BY PROGRAM, IN A SANDBOX (cutbox-door.mjs). By AI agents, Wed Nov 11 2026. No macro, syntax, notation, axiom, sorry.
-/
import Derived.Test.YtlajhejcfcoddaaGreatDoorRows
import GoSem.ClaimSeven
namespace Go.Proofs.YtlajhejcfcoddaaGreatDoor
namespace Rows

/-- THE TIED CARD OF 'kreisellaw06.RaceOrder'. -/
def raceOrderCard : Claim7 := { stood := { row := raceOrderRow, standIns := [], harness := (true, "128c7b92841058bed12da8afed87bbc4b0aaabe1f53fa26f3375c79494883c5c"), looks := true }, kinds := [], alts := [], laidByText := true, laidKinds := [.funcsDeep], laidTests := true, laidLooks := .later }
def RaceOrderCardSaid : Prop := Claim7.holds Tryz.pinned (.plain (OpenSpec.ofChange raceOrderSpec)) raceOrderCard

/-- THE TIED CARD OF 'kreisellaw06.RaceLater'. -/
def raceLaterCard : Claim7 := { stood := { row := raceLaterRow, standIns := [], harness := (true, "128c7b92841058bed12da8afed87bbc4b0aaabe1f53fa26f3375c79494883c5c"), looks := true }, kinds := [], alts := [], laidByText := true, laidKinds := [.funcsDeep], laidTests := true, laidLooks := .later }
def RaceLaterCardSaid : Prop := Claim7.holds Tryz.pinned (.plain (OpenSpec.ofChange raceLaterSpec)) raceLaterCard

/-- THE TIED CARD OF 'kreisellaw06.RaceSync'. -/
def raceSyncCard : Claim7 := { stood := { row := raceSyncRow, standIns := [], harness := (true, "128c7b92841058bed12da8afed87bbc4b0aaabe1f53fa26f3375c79494883c5c"), looks := true }, kinds := [], alts := [], laidByText := true, laidKinds := [.funcsDeep], laidTests := true, laidLooks := .later }
def RaceSyncCardSaid : Prop := Claim7.holds Tryz.pinned (.plain (OpenSpec.ofChange raceSyncSpec)) raceSyncCard

/-- THE TIED CARD OF 'kreisellaw06.RaceRide'. -/
def raceRideCard : Claim7 := { stood := { row := raceRideRow, standIns := [], harness := (true, "128c7b92841058bed12da8afed87bbc4b0aaabe1f53fa26f3375c79494883c5c"), looks := true }, kinds := [], alts := [], laidByText := true, laidKinds := [.funcsDeep], laidTests := true, laidLooks := .later }
def RaceRideCardSaid : Prop := Claim7.holds Tryz.pinned (.plain (OpenSpec.ofChange raceRideSpec)) raceRideCard

/-- THE SECOND FORM's CARD OF 'kreisellaw06.RaceOrder'. -/
def raceOrderUptoCard : Claim7 := { stood := { row := raceOrderUptoRow, standIns := [], harness := (true, "128c7b92841058bed12da8afed87bbc4b0aaabe1f53fa26f3375c79494883c5c"), looks := true }, kinds := [], alts := [], laidByText := true, laidKinds := [.funcsDeep], laidTests := true, laidLooks := .later }
def RaceOrderUptoCardSaid : Prop := Claim7.holds Tryz.pinned (.plain (OpenSpec.upto raceOrderSpec)) raceOrderUptoCard

/-- THE SECOND FORM's CARD OF 'kreisellaw06.RaceLater'. -/
def raceLaterUptoCard : Claim7 := { stood := { row := raceLaterUptoRow, standIns := [], harness := (true, "128c7b92841058bed12da8afed87bbc4b0aaabe1f53fa26f3375c79494883c5c"), looks := true }, kinds := [], alts := [], laidByText := true, laidKinds := [.funcsDeep], laidTests := true, laidLooks := .later }
def RaceLaterUptoCardSaid : Prop := Claim7.holds Tryz.pinned (.plain (OpenSpec.upto raceLaterSpec)) raceLaterUptoCard

/-- THE SECOND FORM's CARD OF 'kreisellaw06.RaceSync'. -/
def raceSyncUptoCard : Claim7 := { stood := { row := raceSyncUptoRow, standIns := [], harness := (true, "128c7b92841058bed12da8afed87bbc4b0aaabe1f53fa26f3375c79494883c5c"), looks := true }, kinds := [], alts := [], laidByText := true, laidKinds := [.funcsDeep], laidTests := true, laidLooks := .later }
def RaceSyncUptoCardSaid : Prop := Claim7.holds Tryz.pinned (.plain (OpenSpec.upto raceSyncSpec)) raceSyncUptoCard

/-- THE SECOND FORM's CARD OF 'kreisellaw06.RaceRide'. -/
def raceRideUptoCard : Claim7 := { stood := { row := raceRideUptoRow, standIns := [], harness := (true, "128c7b92841058bed12da8afed87bbc4b0aaabe1f53fa26f3375c79494883c5c"), looks := true }, kinds := [], alts := [], laidByText := true, laidKinds := [.funcsDeep], laidTests := true, laidLooks := .later }
def RaceRideUptoCardSaid : Prop := Claim7.holds Tryz.pinned (.plain (OpenSpec.upto raceRideSpec)) raceRideUptoCard
end Rows
end Go.Proofs.YtlajhejcfcoddaaGreatDoor
