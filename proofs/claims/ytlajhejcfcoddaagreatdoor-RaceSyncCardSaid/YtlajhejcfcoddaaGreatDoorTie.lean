/-
  DERIVED. GIVEN WITH THE SEED: THE PROGRAM's TIES (one call each: nine closed facts by the kernel) AND EACH ROW's TIE, after the 31st guide's Derived/Test/Toyas{Tie, Card}.lean. No idea stands in it: it is a product of the set-up. Laid BY PROGRAM, IN A SANDBOX (cutbox-door.mjs). By AI agents, Wed Nov 11 2026. No macro, syntax, notation, axiom, sorry.
-/
import Derived.Test.YtlajhejcfcoddaaGreatDoorRows
import Derived.LaidByTextLater
import Derived.SevenTiedAt
import Derived.LaidSub
import Derived.LaidOnce
namespace Go.Proofs.YtlajhejcfcoddaaGreatDoor
open Go
set_option maxRecDepth 100000
theorem seatTie1 : Tryz.prog.laidByTextLater [("kreisel/race.table", Rows.laid_kreisel_race_table)] [.funcsDeep] true :=
  Program.laidByTextLater_by_one 17 8 2 (by kernel_rfl) (by kernel_rfl) (by kernel_rfl) (by kernel_rfl) (by kernel_rfl) (by kernel_rfl) (fun _ _ => by kernel_rfl)
theorem noOwnUnsafe : Tryz.pinned.checked.prog.headLifts.contains "ownunsafe" = false := by kernel_rfl
theorem tie : Tryz.prog.laidByTextLater [("kreisel/race.table", Rows.laid_kreisel_race_table)] [.funcsDeep] true :=
  Program.laidByTextLater.sub seatTie1 ["kreisel/race.table"] (by kernel_rfl) (by kernel_rfl)
theorem raceOrder_row_tie : Rows.raceOrderRow.laidByTextAt .later Tryz.pinned [.funcsDeep] true :=
  OpenClaim.laidByTextAt_later rfl rfl tie noOwnUnsafe
theorem raceLater_row_tie : Rows.raceLaterRow.laidByTextAt .later Tryz.pinned [.funcsDeep] true :=
  OpenClaim.laidByTextAt_later rfl rfl tie noOwnUnsafe
theorem raceSync_row_tie : Rows.raceSyncRow.laidByTextAt .later Tryz.pinned [.funcsDeep] true :=
  OpenClaim.laidByTextAt_later rfl rfl tie noOwnUnsafe
theorem raceRide_row_tie : Rows.raceRideRow.laidByTextAt .later Tryz.pinned [.funcsDeep] true :=
  OpenClaim.laidByTextAt_later rfl rfl tie noOwnUnsafe
theorem raceOrderUpto_row_tie : Rows.raceOrderUptoRow.laidByTextAt .later Tryz.pinned [.funcsDeep] true :=
  OpenClaim.laidByTextAt_later rfl rfl tie noOwnUnsafe
theorem raceLaterUpto_row_tie : Rows.raceLaterUptoRow.laidByTextAt .later Tryz.pinned [.funcsDeep] true :=
  OpenClaim.laidByTextAt_later rfl rfl tie noOwnUnsafe
theorem raceSyncUpto_row_tie : Rows.raceSyncUptoRow.laidByTextAt .later Tryz.pinned [.funcsDeep] true :=
  OpenClaim.laidByTextAt_later rfl rfl tie noOwnUnsafe
theorem raceRideUpto_row_tie : Rows.raceRideUptoRow.laidByTextAt .later Tryz.pinned [.funcsDeep] true :=
  OpenClaim.laidByTextAt_later rfl rfl tie noOwnUnsafe
end Go.Proofs.YtlajhejcfcoddaaGreatDoor
