/-
 The statement raceReached_said, part 2 of 8: ClRaceReached.
 Conditions: none.
-/
import Derived.Test.YtdllkkdchkhimaaGreatDoorTy1
import Derived.Test.YtdllkkdchkhimaaGreatDoorRows
import Derived.Test.YtdllkkdchkhimaaGreatDoorProg
import Derived.JoinedOf
import Derived.KernelRfl
namespace Go.Proofs.YtdllkkdchkhimaaGreatDoor
set_option maxRecDepth 100000
set_option maxHeartbeats 4000000
set_option linter.unusedVariables false
section
theorem rp:(Rows.raceReachedRow.inPlace==Tryz.prog.inPlace 4)=true:=by kernel_rfl
theorem rj:(Rows.raceReachedRow.unfollowed==Tryz.prog.unfollowed 4)=true:=by kernel_rfl
theorem rl:(Rows.raceReachedRow.recurses==Tryz.prog.recurses 4)=true:=by kernel_rfl
theorem rn:(Rows.raceReachedRow.named==Tryz.prog.varsNamed 4)=true:=by kernel_rfl
theorem sv:joinedFacts Tryz.prog 4 Tryz.f4 Rows.raceReachedSpec Rows.raceReachedRow=true:=by
 unfold joinedFacts
 rw [rp,rj,rl,rn,An,show (Rows.raceReachedRow.lifted==Tryz.prog.liftsFinal)=true from AI,show (Tryz.prog.make==some Rows.raceReachedRow.make)=true from AX]
 kernel_rfl
end
end Go.Proofs.YtdllkkdchkhimaaGreatDoor
