/-
  DERIVED. GIVEN WITH THE SEED: THE CARDS: each row of YtgnlmfdknlbkkaaGreatDoorRows.lean that lists a variable, with what it lists TIED to the program's text (the seventh form; the later family's looks); each row that meets fmt, with fmt's text TOLD by the authors' own Lean function (tested against real Go, not proved from fmt's source: count such statements apart). THE CARD IS WHAT COUNTS. Prove the row's statement (the work); the ties are given (YtgnlmfdknlbkkaaGreatDoorTie.lean); close each card by the builder's one call (the guide's Derived/Test/ToyasCard.lean, 'card_holds'). Laid BY PROGRAM, IN A SANDBOX (cutbox-door.mjs). By AI agents, Wed Nov 11 2026. No macro, syntax, notation, axiom, sorry.
-/
import Derived.Test.YtgnlmfdknlbkkaaGreatDoorRows
import GoSem.ClaimSeven
namespace Go.Proofs.YtgnlmfdknlbkkaaGreatDoor
namespace Rows

/-- THE TIED CARD OF 'kreiseltop.TopRepaired'. -/
def topRepairedCard : Claim7 := { stood := { row := topRepairedRow, standIns := [], harness := (true, "5c5e520b210da50315c5f25da45c16a30d3e24048b13612067901be4913a4b3f"), looks := true }, kinds := [], alts := [], laidByText := true, laidKinds := [.funcsDeep], laidTests := true, laidLooks := .later }
def TopRepairedCardSaid : Prop := Claim7.holds Tryz.pinned (.plain (OpenSpec.ofChange topRepairedSpec)) topRepairedCard

/-- THE SECOND FORM's CARD OF 'kreiseltop.TopRepaired'. -/
def topRepairedUptoCard : Claim7 := { stood := { row := topRepairedUptoRow, standIns := [], harness := (true, "5c5e520b210da50315c5f25da45c16a30d3e24048b13612067901be4913a4b3f"), looks := true }, kinds := [], alts := [], laidByText := true, laidKinds := [.funcsDeep], laidTests := true, laidLooks := .later }
def TopRepairedUptoCardSaid : Prop := Claim7.holds Tryz.pinned (.plain (OpenSpec.upto topRepairedSpec)) topRepairedUptoCard
end Rows
end Go.Proofs.YtgnlmfdknlbkkaaGreatDoor
