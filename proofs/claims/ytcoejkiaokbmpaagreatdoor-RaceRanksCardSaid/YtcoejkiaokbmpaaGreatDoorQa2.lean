/-
 The statement raceRanks_said, part 2 of 8: ClRaceRanks.
 Conditions: none.
-/
import Derived.Test.YtcoejkiaokbmpaaGreatDoorQa1
import Derived.Test.YtcoejkiaokbmpaaGreatDoorRows
import Derived.Test.YtcoejkiaokbmpaaGreatDoorProg
import Derived.JoinedOf
import Derived.KernelRfl
namespace Go.Proofs.YtcoejkiaokbmpaaGreatDoor
set_option maxRecDepth 100000
set_option maxHeartbeats 4000000
set_option linter.unusedVariables false
section
theorem q_:(Rows.raceRanksRow.inPlace==Tryz.prog.inPlace 3)=true:=by kernel_rfl
theorem ry:(Rows.raceRanksRow.unfollowed==Tryz.prog.unfollowed 3)=true:=by kernel_rfl
theorem re:(Rows.raceRanksRow.recurses==Tryz.prog.recurses 3)=true:=by kernel_rfl
theorem rE:(Rows.raceRanksRow.named==Tryz.prog.varsNamed 3)=true:=by kernel_rfl
theorem sM:joinedFacts Tryz.prog 3 Tryz.f3 Rows.raceRanksSpec Rows.raceRanksRow=true:=by
 unfold joinedFacts
 rw [q_,ry,re,rE,xU,show (Rows.raceRanksRow.lifted==Tryz.prog.liftsFinal)=true from x4,show (Tryz.prog.make==some Rows.raceRanksRow.make)=true from yC]
 kernel_rfl
end
end Go.Proofs.YtcoejkiaokbmpaaGreatDoor
