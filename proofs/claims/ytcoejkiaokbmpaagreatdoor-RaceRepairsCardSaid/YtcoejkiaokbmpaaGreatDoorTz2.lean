/-
 The statement raceRepairs_said, part 2 of 8: ClRaceRepairs.
 Conditions: none.
-/
import Derived.Test.YtcoejkiaokbmpaaGreatDoorTz1
import Derived.Test.YtcoejkiaokbmpaaGreatDoorRows
import Derived.Test.YtcoejkiaokbmpaaGreatDoorProg
import Derived.JoinedOf
import Derived.KernelRfl
namespace Go.Proofs.YtcoejkiaokbmpaaGreatDoor
set_option maxRecDepth 100000
set_option maxHeartbeats 4000000
set_option linter.unusedVariables false
section
theorem rF:(Rows.raceRepairsRow.inPlace==Tryz.prog.inPlace 5)=true:=by kernel_rfl
theorem rz:(Rows.raceRepairsRow.unfollowed==Tryz.prog.unfollowed 5)=true:=by kernel_rfl
theorem rJ:(Rows.raceRepairsRow.recurses==Tryz.prog.recurses 5)=true:=by kernel_rfl
theorem rv:(Rows.raceRepairsRow.named==Tryz.prog.varsNamed 5)=true:=by kernel_rfl
theorem rZ:joinedFacts Tryz.prog 5 Tryz.f5 Rows.raceRepairsSpec Rows.raceRepairsRow=true:=by
 unfold joinedFacts
 rw [rF,rz,rJ,rv,zC,show (Rows.raceRepairsRow.lifted==Tryz.prog.liftsFinal)=true from z3,show (Tryz.prog.make==some Rows.raceRepairsRow.make)=true from Cz]
 kernel_rfl
end
end Go.Proofs.YtcoejkiaokbmpaaGreatDoor
