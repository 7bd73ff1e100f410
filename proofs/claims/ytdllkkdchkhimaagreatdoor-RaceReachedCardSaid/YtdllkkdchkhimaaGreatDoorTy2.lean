/-
 The statement raceReached_said, part 2 of 8: ClRaceReached.
 Conditions: none.
-/
import Derived.Test.YtdllkkdchkhimaaGreatDoorTy1
import Derived.Test.YtdllkkdchkhimaaGreatDoorRows
import Derived.Test.YtdllkkdchkhimaaGreatDoorProg
import Derived.JoinedOf
import Derived.KernelRfl
namespace Go.Proofs.YtdllkkdchkhimaaGreatDoor
set_option maxRecDepth 100000
set_option maxHeartbeats 4000000
set_option linter.unusedVariables false
section
theorem rn:(Rows.raceReachedRow.inPlace==Tryz.prog.inPlace 4)=true:=by kernel_rfl
theorem rh:(Rows.raceReachedRow.unfollowed==Tryz.prog.unfollowed 4)=true:=by kernel_rfl
theorem rf:(Rows.raceReachedRow.recurses==Tryz.prog.recurses 4)=true:=by kernel_rfl
theorem rm:(Rows.raceReachedRow.named==Tryz.prog.varsNamed 4)=true:=by kernel_rfl
theorem se:joinedFacts Tryz.prog 4 Tryz.f4 Rows.raceReachedSpec Rows.raceReachedRow=true:=by
 unfold joinedFacts
 rw [rn,rh,rf,rm,AF,show (Rows.raceReachedRow.lifted==Tryz.prog.liftsFinal)=true from Au,show (Tryz.prog.make==some Rows.raceReachedRow.make)=true from Co]
 kernel_rfl
end
end Go.Proofs.YtdllkkdchkhimaaGreatDoor
