/-
  DERIVED. GIVEN WITH THE SEED: THE PROGRAM's TIES (one call each: nine closed facts by the kernel) AND EACH ROW's TIE, after the 31st guide's Derived/Test/Toyas{Tie, Card}.lean. No idea stands in it: it is a product of the set-up. Laid BY PROGRAM, IN A SANDBOX (cutbox-door.mjs). By AI agents, Wed Nov 11 2026. No macro, syntax, notation, axiom, sorry.
-/
import Derived.Test.YtadjgjnicdcjbaaGreatDoorRows
import Derived.LaidByTextLater
import Derived.SevenTiedAt
import Derived.LaidSub
import Derived.LaidOnce
namespace Go.Proofs.YtadjgjnicdcjbaaGreatDoor
open Go
set_option maxRecDepth 100000
theorem seatTie1 : Tryz.prog.laidByTextLater [("kreisel/race.table", Rows.laid_kreisel_race_table)] [.funcsDeep] true :=
  Program.laidByTextLater_by_one 17 8 2 (by kernel_rfl) (by kernel_rfl) (by kernel_rfl) (by kernel_rfl) (by kernel_rfl) (by kernel_rfl) (fun _ _ => by kernel_rfl)
theorem noOwnUnsafe : Tryz.pinned.checked.prog.headLifts.contains "ownunsafe" = false := by kernel_rfl
theorem tie : Tryz.prog.laidByTextLater [("kreisel/race.table", Rows.laid_kreisel_race_table)] [.funcsDeep] true :=
  Program.laidByTextLater.sub seatTie1 ["kreisel/race.table"] (by kernel_rfl) (by kernel_rfl)
theorem raceExamples_row_tie : Rows.raceExamplesRow.laidByTextAt .later Tryz.pinned [.funcsDeep] true :=
  OpenClaim.laidByTextAt_later rfl rfl tie noOwnUnsafe
theorem raceTable_row_tie : Rows.raceTableRow.laidByTextAt .later Tryz.pinned [.funcsDeep] true :=
  OpenClaim.laidByTextAt_later rfl rfl tie noOwnUnsafe
theorem raceRepaired_row_tie : Rows.raceRepairedRow.laidByTextAt .later Tryz.pinned [.funcsDeep] true :=
  OpenClaim.laidByTextAt_later rfl rfl tie noOwnUnsafe
theorem raceNarrowed_row_tie : Rows.raceNarrowedRow.laidByTextAt .later Tryz.pinned [.funcsDeep] true :=
  OpenClaim.laidByTextAt_later rfl rfl tie noOwnUnsafe
theorem raceExamplesUpto_row_tie : Rows.raceExamplesUptoRow.laidByTextAt .later Tryz.pinned [.funcsDeep] true :=
  OpenClaim.laidByTextAt_later rfl rfl tie noOwnUnsafe
theorem raceTableUpto_row_tie : Rows.raceTableUptoRow.laidByTextAt .later Tryz.pinned [.funcsDeep] true :=
  OpenClaim.laidByTextAt_later rfl rfl tie noOwnUnsafe
theorem raceRepairedUpto_row_tie : Rows.raceRepairedUptoRow.laidByTextAt .later Tryz.pinned [.funcsDeep] true :=
  OpenClaim.laidByTextAt_later rfl rfl tie noOwnUnsafe
theorem raceNarrowedUpto_row_tie : Rows.raceNarrowedUptoRow.laidByTextAt .later Tryz.pinned [.funcsDeep] true :=
  OpenClaim.laidByTextAt_later rfl rfl tie noOwnUnsafe
end Go.Proofs.YtadjgjnicdcjbaaGreatDoor
