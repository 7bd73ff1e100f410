/-
  DERIVED. GIVEN WITH THE SEED: THE CARDS: each row of YtfhghdbminmhnaaGreatDoorRows.lean that lists a variable, with what it lists TIED to the program's text (the seventh form; the later family's looks); each row that meets fmt, with fmt's text TOLD by the authors' own Lean function (tested against real Go, not proved from fmt's source: count such statements apart). THE CARD IS WHAT COUNTS. Prove the row's statement (the work); the ties are given (YtfhghdbminmhnaaGreatDoorTie.lean); close each card by the builder's one call (the guide's Derived/Test/ToyasCard.lean, 'card_holds'). Laid BY PROGRAM, IN A SANDBOX (cutbox-door.mjs). By AI agents, Wed Nov 11 2026. No macro, syntax, notation, axiom, sorry.
-/
import Derived.Test.YtfhghdbminmhnaaGreatDoorRows
import GoSem.ClaimSeven
namespace Go.Proofs.YtfhghdbminmhnaaGreatDoor
namespace Rows

/-- THE TIED CARD OF 'kreisellaw07.JuryTrue'. -/
def juryTrueCard : Claim7 := { stood := { row := juryTrueRow, standIns := [], harness := (true, "033e9b20058d598793942568cf20ddcee0103e281a05992d75678dd7a8545cb7"), looks := false }, kinds := [], alts := [], laidByText := true, laidKinds := [.funcsDeep], laidTests := true, laidLooks := .later }
def JuryTrueCardSaid : Prop := Claim7.holds Tryz.pinned (.plain (OpenSpec.ofChange juryTrueSpec)) juryTrueCard

/-- THE SECOND FORM's CARD OF 'kreisellaw07.JuryTrue'. -/
def juryTrueUptoCard : Claim7 := { stood := { row := juryTrueUptoRow, standIns := [], harness := (true, "033e9b20058d598793942568cf20ddcee0103e281a05992d75678dd7a8545cb7"), looks := false }, kinds := [], alts := [], laidByText := true, laidKinds := [.funcsDeep], laidTests := true, laidLooks := .later }
def JuryTrueUptoCardSaid : Prop := Claim7.holds Tryz.pinned (.plain (OpenSpec.upto juryTrueSpec)) juryTrueUptoCard
end Rows
end Go.Proofs.YtfhghdbminmhnaaGreatDoor
