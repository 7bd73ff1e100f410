/-
  DERIVED. GIVEN WITH THE SEED: THE CARDS: each row of YtgcjjjehnjljbaaGreatDoorRows.lean that lists a variable, with what it lists TIED to the program's text (the seventh form; the later family's looks); each row that meets fmt, with fmt's text TOLD by the authors' own Lean function (tested against real Go, not proved from fmt's source: count such statements apart). THE CARD IS WHAT COUNTS. Prove the row's statement (the work); the ties are given (YtgcjjjehnjljbaaGreatDoorTie.lean); close each card by the builder's one call (the guide's Derived/Test/ToyasCard.lean, 'card_holds'). Laid BY PROGRAM, IN A SANDBOX (cutbox-door.mjs). By AI agents, Wed Nov 11 2026. No macro, syntax, notation, axiom, sorry.
-/
import Derived.Test.YtgcjjjehnjljbaaGreatDoorRows
import GoSem.ClaimSeven
namespace Go.Proofs.YtgcjjjehnjljbaaGreatDoor
namespace Rows

/-- THE TIED CARD OF 'kreisellaw07.JuryTouches'. -/
def juryTouchesCard : Claim7 := { stood := { row := juryTouchesRow, standIns := [], harness := (true, "e8b49bee3c5e544e2c7502e23a678660d8319ee0f11ce60c169a77c620e7f075"), looks := false }, kinds := [], alts := [], laidByText := true, laidKinds := [.funcsDeep], laidTests := true, laidLooks := .later }
def JuryTouchesCardSaid : Prop := Claim7.holds Tryz.pinned (.plain (OpenSpec.ofChange juryTouchesSpec)) juryTouchesCard

/-- THE TIED CARD OF 'kreisellaw07.JuryTrue'. -/
def juryTrueCard : Claim7 := { stood := { row := juryTrueRow, standIns := [], harness := (true, "e8b49bee3c5e544e2c7502e23a678660d8319ee0f11ce60c169a77c620e7f075"), looks := false }, kinds := [], alts := [], laidByText := true, laidKinds := [.funcsDeep], laidTests := true, laidLooks := .later }
def JuryTrueCardSaid : Prop := Claim7.holds Tryz.pinned (.plain (OpenSpec.ofChange juryTrueSpec)) juryTrueCard

/-- THE TIED CARD OF 'kreisellaw07.JuryRules'. -/
def juryRulesCard : Claim7 := { stood := { row := juryRulesRow, standIns := [], harness := (true, "e8b49bee3c5e544e2c7502e23a678660d8319ee0f11ce60c169a77c620e7f075"), looks := false }, kinds := [], alts := [], laidByText := true, laidKinds := [.funcsDeep], laidTests := true, laidLooks := .later }
def JuryRulesCardSaid : Prop := Claim7.holds Tryz.pinned (.plain (OpenSpec.ofChange juryRulesSpec)) juryRulesCard

/-- THE TIED CARD OF 'kreisellaw07.JuryReplaced'. -/
def juryReplacedCard : Claim7 := { stood := { row := juryReplacedRow, standIns := [], harness := (true, "e8b49bee3c5e544e2c7502e23a678660d8319ee0f11ce60c169a77c620e7f075"), looks := false }, kinds := [], alts := [], laidByText := true, laidKinds := [.funcsDeep], laidTests := true, laidLooks := .later }
def JuryReplacedCardSaid : Prop := Claim7.holds Tryz.pinned (.plain (OpenSpec.ofChange juryReplacedSpec)) juryReplacedCard

/-- THE TIED CARD OF 'kreisellaw07.JuryExamples'. -/
def juryExamplesCard : Claim7 := { stood := { row := juryExamplesRow, standIns := [], harness := (true, "e8b49bee3c5e544e2c7502e23a678660d8319ee0f11ce60c169a77c620e7f075"), looks := false }, kinds := [], alts := [], laidByText := true, laidKinds := [.funcsDeep], laidTests := true, laidLooks := .later }
def JuryExamplesCardSaid : Prop := Claim7.holds Tryz.pinned (.plain (OpenSpec.ofChange juryExamplesSpec)) juryExamplesCard

/-- THE SECOND FORM's CARD OF 'kreisellaw07.JuryTouches'. -/
def juryTouchesUptoCard : Claim7 := { stood := { row := juryTouchesUptoRow, standIns := [], harness := (true, "e8b49bee3c5e544e2c7502e23a678660d8319ee0f11ce60c169a77c620e7f075"), looks := false }, kinds := [], alts := [], laidByText := true, laidKinds := [.funcsDeep], laidTests := true, laidLooks := .later }
def JuryTouchesUptoCardSaid : Prop := Claim7.holds Tryz.pinned (.plain (OpenSpec.upto juryTouchesSpec)) juryTouchesUptoCard

/-- THE SECOND FORM's CARD OF 'kreisellaw07.JuryTrue'. -/
def juryTrueUptoCard : Claim7 := { stood := { row := juryTrueUptoRow, standIns := [], harness := (true, "e8b49bee3c5e544e2c7502e23a678660d8319ee0f11ce60c169a77c620e7f075"), looks := false }, kinds := [], alts := [], laidByText := true, laidKinds := [.funcsDeep], laidTests := true, laidLooks := .later }
def JuryTrueUptoCardSaid : Prop := Claim7.holds Tryz.pinned (.plain (OpenSpec.upto juryTrueSpec)) juryTrueUptoCard

/-- THE SECOND FORM's CARD OF 'kreisellaw07.JuryRules'. -/
def juryRulesUptoCard : Claim7 := { stood := { row := juryRulesUptoRow, standIns := [], harness := (true, "e8b49bee3c5e544e2c7502e23a678660d8319ee0f11ce60c169a77c620e7f075"), looks := false }, kinds := [], alts := [], laidByText := true, laidKinds := [.funcsDeep], laidTests := true, laidLooks := .later }
def JuryRulesUptoCardSaid : Prop := Claim7.holds Tryz.pinned (.plain (OpenSpec.upto juryRulesSpec)) juryRulesUptoCard

/-- THE SECOND FORM's CARD OF 'kreisellaw07.JuryReplaced'. -/
def juryReplacedUptoCard : Claim7 := { stood := { row := juryReplacedUptoRow, standIns := [], harness := (true, "e8b49bee3c5e544e2c7502e23a678660d8319ee0f11ce60c169a77c620e7f075"), looks := false }, kinds := [], alts := [], laidByText := true, laidKinds := [.funcsDeep], laidTests := true, laidLooks := .later }
def JuryReplacedUptoCardSaid : Prop := Claim7.holds Tryz.pinned (.plain (OpenSpec.upto juryReplacedSpec)) juryReplacedUptoCard

/-- THE SECOND FORM's CARD OF 'kreisellaw07.JuryExamples'. -/
def juryExamplesUptoCard : Claim7 := { stood := { row := juryExamplesUptoRow, standIns := [], harness := (true, "e8b49bee3c5e544e2c7502e23a678660d8319ee0f11ce60c169a77c620e7f075"), looks := false }, kinds := [], alts := [], laidByText := true, laidKinds := [.funcsDeep], laidTests := true, laidLooks := .later }
def JuryExamplesUptoCardSaid : Prop := Claim7.holds Tryz.pinned (.plain (OpenSpec.upto juryExamplesSpec)) juryExamplesUptoCard
end Rows
end Go.Proofs.YtgcjjjehnjljbaaGreatDoor
