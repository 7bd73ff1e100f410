/-
 The statement raceTimes_said, part 2 of 8: ClRaceTimes.
 Conditions: none.
-/
import Derived.Test.YtcoejkiaokbmpaaGreatDoorTm1
import Derived.Test.YtcoejkiaokbmpaaGreatDoorRows
import Derived.Test.YtcoejkiaokbmpaaGreatDoorProg
import Derived.JoinedOf
import Derived.KernelRfl
namespace Go.Proofs.YtcoejkiaokbmpaaGreatDoor
set_option maxRecDepth 100000
set_option maxHeartbeats 4000000
set_option linter.unusedVariables false
section
theorem qV:(Rows.raceTimesRow.inPlace==Tryz.prog.inPlace 4)=true:=by kernel_rfl
theorem qQ:(Rows.raceTimesRow.unfollowed==Tryz.prog.unfollowed 4)=true:=by kernel_rfl
theorem qF:(Rows.raceTimesRow.recurses==Tryz.prog.recurses 4)=true:=by kernel_rfl
theorem qG:(Rows.raceTimesRow.named==Tryz.prog.varsNamed 4)=true:=by kernel_rfl
theorem rD:joinedFacts Tryz.prog 4 Tryz.f4 Rows.raceTimesSpec Rows.raceTimesRow=true:=by
 unfold joinedFacts
 rw [qV,qQ,qF,qG,wT,show (Rows.raceTimesRow.lifted==Tryz.prog.liftsFinal)=true from wY,show (Tryz.prog.make==some Rows.raceTimesRow.make)=true from yZ]
 kernel_rfl
end
end Go.Proofs.YtcoejkiaokbmpaaGreatDoor
