/-
  DERIVED. GIVEN WITH THE SEED: THE CARDS: each row of YtijpnoadncadoaaGreatDoorRows.lean that lists a variable, with what it lists TIED to the program's text (the seventh form; the later family's looks); each row that meets fmt, with fmt's text TOLD by the authors' own Lean function (tested against real Go, not proved from fmt's source: count such statements apart). THE CARD IS WHAT COUNTS. Prove the row's statement (the work); the ties are given (YtijpnoadncadoaaGreatDoorTie.lean); close each card by the builder's one call (the guide's Derived/Test/ToyasCard.lean, 'card_holds'). Laid BY PROGRAM, IN A SANDBOX (cutbox-door.mjs). By AI agents, Wed Nov 11 2026. No macro, syntax, notation, axiom, sorry.
-/
import Derived.Test.YtijpnoadncadoaaGreatDoorRows
import GoSem.ClaimSeven
namespace Go.Proofs.YtijpnoadncadoaaGreatDoor
namespace Rows

/-- THE TIED CARD OF 'kreisellaw07.JuryAll'. -/
def juryAllCard : Claim7 := { stood := { row := juryAllRow, standIns := [], harness := (true, "d8cf0626f832096ce100a6f7c79f4ede30e4673a60460e9c643b06a90f42f87b"), looks := false }, kinds := [], alts := [], laidByText := true, laidKinds := [.funcsDeep], laidTests := true, laidLooks := .later }
def JuryAllCardSaid : Prop := Claim7.holds Tryz.pinned (.plain (OpenSpec.ofChange juryAllSpec)) juryAllCard

/-- THE TIED CARD OF 'kreisellaw07.JuryFees'. -/
def juryFeesCard : Claim7 := { stood := { row := juryFeesRow, standIns := [], harness := (true, "d8cf0626f832096ce100a6f7c79f4ede30e4673a60460e9c643b06a90f42f87b"), looks := false }, kinds := [], alts := [], laidByText := true, laidKinds := [.funcsDeep], laidTests := true, laidLooks := .later }
def JuryFeesCardSaid : Prop := Claim7.holds Tryz.pinned (.plain (OpenSpec.ofChange juryFeesSpec)) juryFeesCard

/-- THE TIED CARD OF 'kreisellaw07.JuryMore'. -/
def juryMoreCard : Claim7 := { stood := { row := juryMoreRow, standIns := [], harness := (true, "d8cf0626f832096ce100a6f7c79f4ede30e4673a60460e9c643b06a90f42f87b"), looks := false }, kinds := [], alts := [], laidByText := true, laidKinds := [.funcsDeep], laidTests := true, laidLooks := .later }
def JuryMoreCardSaid : Prop := Claim7.holds Tryz.pinned (.plain (OpenSpec.ofChange juryMoreSpec)) juryMoreCard

/-- THE TIED CARD OF 'kreisellaw07.JuryLater'. -/
def juryLaterCard : Claim7 := { stood := { row := juryLaterRow, standIns := [], harness := (true, "d8cf0626f832096ce100a6f7c79f4ede30e4673a60460e9c643b06a90f42f87b"), looks := false }, kinds := [], alts := [], laidByText := true, laidKinds := [.funcsDeep], laidTests := true, laidLooks := .later }
def JuryLaterCardSaid : Prop := Claim7.holds Tryz.pinned (.plain (OpenSpec.ofChange juryLaterSpec)) juryLaterCard

/-- THE TIED CARD OF 'kreisellaw07.JuryHit'. -/
def juryHitCard : Claim7 := { stood := { row := juryHitRow, standIns := [], harness := (true, "d8cf0626f832096ce100a6f7c79f4ede30e4673a60460e9c643b06a90f42f87b"), looks := false }, kinds := [], alts := [], laidByText := true, laidKinds := [.funcsDeep], laidTests := true, laidLooks := .later }
def JuryHitCardSaid : Prop := Claim7.holds Tryz.pinned (.plain (OpenSpec.ofChange juryHitSpec)) juryHitCard

/-- THE SECOND FORM's CARD OF 'kreisellaw07.JuryAll'. -/
def juryAllUptoCard : Claim7 := { stood := { row := juryAllUptoRow, standIns := [], harness := (true, "d8cf0626f832096ce100a6f7c79f4ede30e4673a60460e9c643b06a90f42f87b"), looks := false }, kinds := [], alts := [], laidByText := true, laidKinds := [.funcsDeep], laidTests := true, laidLooks := .later }
def JuryAllUptoCardSaid : Prop := Claim7.holds Tryz.pinned (.plain (OpenSpec.upto juryAllSpec)) juryAllUptoCard

/-- THE SECOND FORM's CARD OF 'kreisellaw07.JuryFees'. -/
def juryFeesUptoCard : Claim7 := { stood := { row := juryFeesUptoRow, standIns := [], harness := (true, "d8cf0626f832096ce100a6f7c79f4ede30e4673a60460e9c643b06a90f42f87b"), looks := false }, kinds := [], alts := [], laidByText := true, laidKinds := [.funcsDeep], laidTests := true, laidLooks := .later }
def JuryFeesUptoCardSaid : Prop := Claim7.holds Tryz.pinned (.plain (OpenSpec.upto juryFeesSpec)) juryFeesUptoCard

/-- THE SECOND FORM's CARD OF 'kreisellaw07.JuryMore'. -/
def juryMoreUptoCard : Claim7 := { stood := { row := juryMoreUptoRow, standIns := [], harness := (true, "d8cf0626f832096ce100a6f7c79f4ede30e4673a60460e9c643b06a90f42f87b"), looks := false }, kinds := [], alts := [], laidByText := true, laidKinds := [.funcsDeep], laidTests := true, laidLooks := .later }
def JuryMoreUptoCardSaid : Prop := Claim7.holds Tryz.pinned (.plain (OpenSpec.upto juryMoreSpec)) juryMoreUptoCard

/-- THE SECOND FORM's CARD OF 'kreisellaw07.JuryLater'. -/
def juryLaterUptoCard : Claim7 := { stood := { row := juryLaterUptoRow, standIns := [], harness := (true, "d8cf0626f832096ce100a6f7c79f4ede30e4673a60460e9c643b06a90f42f87b"), looks := false }, kinds := [], alts := [], laidByText := true, laidKinds := [.funcsDeep], laidTests := true, laidLooks := .later }
def JuryLaterUptoCardSaid : Prop := Claim7.holds Tryz.pinned (.plain (OpenSpec.upto juryLaterSpec)) juryLaterUptoCard

/-- THE SECOND FORM's CARD OF 'kreisellaw07.JuryHit'. -/
def juryHitUptoCard : Claim7 := { stood := { row := juryHitUptoRow, standIns := [], harness := (true, "d8cf0626f832096ce100a6f7c79f4ede30e4673a60460e9c643b06a90f42f87b"), looks := false }, kinds := [], alts := [], laidByText := true, laidKinds := [.funcsDeep], laidTests := true, laidLooks := .later }
def JuryHitUptoCardSaid : Prop := Claim7.holds Tryz.pinned (.plain (OpenSpec.upto juryHitSpec)) juryHitUptoCard
end Rows
end Go.Proofs.YtijpnoadncadoaaGreatDoor
