/-
  DERIVED. GIVEN WITH THE SEED: THE CARDS: each row of YtkaenmjhfajbkaaGreatDoorRows.lean that lists a variable, with what it lists TIED to the program's text (the seventh form; the later family's looks); each row that meets fmt, with fmt's text TOLD by the authors' own Lean function (tested against real Go, not proved from fmt's source: count such statements apart). THE CARD IS WHAT COUNTS. Prove the row's statement (the work); the ties are given (YtkaenmjhfajbkaaGreatDoorTie.lean); close each card by the builder's one call (the guide's Derived/Test/ToyasCard.lean, 'card_holds'). Laid BY PROGRAM, IN A SANDBOX (cutbox-door.mjs). By AI agents, Wed Nov 11 2026. No macro, syntax, notation, axiom, sorry.
-/
import Derived.Test.YtkaenmjhfajbkaaGreatDoorRows
import GoSem.ClaimSeven
namespace Go.Proofs.YtkaenmjhfajbkaaGreatDoor
namespace Rows

/-- THE TIED CARD OF 'kreisellaw07.JuryRules'. -/
def juryRulesCard : Claim7 := { stood := { row := juryRulesRow, standIns := [], harness := (true, "538a66b7717897c4dc8df88aae33bef2e51197238457798b4f2260c108aa2044"), looks := false }, kinds := [], alts := [], laidByText := true, laidKinds := [.funcsDeep], laidTests := true, laidLooks := .later }
def JuryRulesCardSaid : Prop := Claim7.holds Tryz.pinned (.plain (OpenSpec.ofChange juryRulesSpec)) juryRulesCard

/-- THE TIED CARD OF 'kreisellaw07.JuryReplaced'. -/
def juryReplacedCard : Claim7 := { stood := { row := juryReplacedRow, standIns := [], harness := (true, "538a66b7717897c4dc8df88aae33bef2e51197238457798b4f2260c108aa2044"), looks := false }, kinds := [], alts := [], laidByText := true, laidKinds := [.funcsDeep], laidTests := true, laidLooks := .later }
def JuryReplacedCardSaid : Prop := Claim7.holds Tryz.pinned (.plain (OpenSpec.ofChange juryReplacedSpec)) juryReplacedCard

/-- THE TIED CARD OF 'kreisellaw07.JuryExamples'. -/
def juryExamplesCard : Claim7 := { stood := { row := juryExamplesRow, standIns := [], harness := (true, "538a66b7717897c4dc8df88aae33bef2e51197238457798b4f2260c108aa2044"), looks := false }, kinds := [], alts := [], laidByText := true, laidKinds := [.funcsDeep], laidTests := true, laidLooks := .later }
def JuryExamplesCardSaid : Prop := Claim7.holds Tryz.pinned (.plain (OpenSpec.ofChange juryExamplesSpec)) juryExamplesCard

/-- THE SECOND FORM's CARD OF 'kreisellaw07.JuryRules'. -/
def juryRulesUptoCard : Claim7 := { stood := { row := juryRulesUptoRow, standIns := [], harness := (true, "538a66b7717897c4dc8df88aae33bef2e51197238457798b4f2260c108aa2044"), looks := false }, kinds := [], alts := [], laidByText := true, laidKinds := [.funcsDeep], laidTests := true, laidLooks := .later }
def JuryRulesUptoCardSaid : Prop := Claim7.holds Tryz.pinned (.plain (OpenSpec.upto juryRulesSpec)) juryRulesUptoCard

/-- THE SECOND FORM's CARD OF 'kreisellaw07.JuryReplaced'. -/
def juryReplacedUptoCard : Claim7 := { stood := { row := juryReplacedUptoRow, standIns := [], harness := (true, "538a66b7717897c4dc8df88aae33bef2e51197238457798b4f2260c108aa2044"), looks := false }, kinds := [], alts := [], laidByText := true, laidKinds := [.funcsDeep], laidTests := true, laidLooks := .later }
def JuryReplacedUptoCardSaid : Prop := Claim7.holds Tryz.pinned (.plain (OpenSpec.upto juryReplacedSpec)) juryReplacedUptoCard

/-- THE SECOND FORM's CARD OF 'kreisellaw07.JuryExamples'. -/
def juryExamplesUptoCard : Claim7 := { stood := { row := juryExamplesUptoRow, standIns := [], harness := (true, "538a66b7717897c4dc8df88aae33bef2e51197238457798b4f2260c108aa2044"), looks := false }, kinds := [], alts := [], laidByText := true, laidKinds := [.funcsDeep], laidTests := true, laidLooks := .later }
def JuryExamplesUptoCardSaid : Prop := Claim7.holds Tryz.pinned (.plain (OpenSpec.upto juryExamplesSpec)) juryExamplesUptoCard
end Rows
end Go.Proofs.YtkaenmjhfajbkaaGreatDoor
